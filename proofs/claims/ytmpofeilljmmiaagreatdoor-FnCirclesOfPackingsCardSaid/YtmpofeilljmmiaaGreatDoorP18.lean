/- Lean functions with the answers of Go functions that the statement reaches, and the proofs that the calls come to them; conditions: none but the arguments' kinds. -/
import Derived.Test.YtmpofeilljmmiaaGreatDoorP0
import Derived.Test.YtmpofeilljmmiaaGreatDoorP7
import Derived.Test.YtmpofeilljmmiaaGreatDoorP22
namespace Go.Proofs.YtmpofeilljmmiaaGreatDoor.P
open Go.RowKit Go.Proofs.YtmpofeilljmmiaaGreatDoorW.PrintWords Go.Proofs.YtmpofeilljmmiaaGreatDoorW.PrintLast Go.Proofs.YtmpofeilljmmiaaGreatDoorW.PrintMore
attribute [local go_sem] max2_int min2_int max_two min_two max_three min_three max_four min_four
set_option linter.unusedVariables false
set_option linter.unusedSimpArgs false
def spec_ciCurvatures.l0:Nat→List Int→List (S37)→Int→Int→Option (List Int)
  |0,_,_,_,_=>none
  |k+1,x3,x6,x7,x8=>if x8<x7 then(if 0≤x8 then(if x8<(x6.length:Int)then(if x3.length<17592186044416 then(spec_ciCurvatures.l0 k (x3++[(rd_T37 x6 x8).f1]) x6 x7 (wrap64 (x8+1)))else(none))else(none))else(none))else(some x3)
def spec_ciCurvatures.f (k:Nat) (l0:List (S37)):Option (List Int):=spec_ciCurvatures.l0 k ([]:List Int) l0 (l0.length:Int) 0
theorem spec_ciCurvatures.mono_l:∀k,(∀y0 y1 y2 y3,LeO (spec_ciCurvatures.l0 k y0 y1 y2 y3) (spec_ciCurvatures.l0 (k+1) y0 y1 y2 y3))
  |0=>fun _ _ _ _ r h=>by simp[spec_ciCurvatures.l0]at h
  |k+1=>by
    have ih0:=spec_ciCurvatures.mono_l k
    · intro y0 y1 y2 y3
      unfold spec_ciCurvatures.l0
      exact mo_
theorem spec_ciCurvatures.mono:∀a0 k,LeO (spec_ciCurvatures.f k a0) (spec_ciCurvatures.f (k+1) a0):=by
  intro a0 k
  have ih0:=spec_ciCurvatures.mono_l k
  unfold spec_ciCurvatures.f
  exact mo_
set_option maxHeartbeats 8000000 in
set_option maxRecDepth 100000 in
theorem spec_ciCurvatures.calls (k:Nat) (A0:Option Addr) (c0:Nat) (l0:List (S37)) (r:List Int) (w:World) (hr0:Kd.C k37 w A0 l0.length l0) (hc0:l0.length≤c0) (h:spec_ciCurvatures.f k l0=some r):
  Calls Tryz.prog 42 #[.slice A0 l0.length c0] w fun e w'=>∃v0_:Value,e= .returned (v0_)∧Kd.R (Kd.int .i64) 3 w' w.heap.size (fun _=>True) v0_ r∧Below w.heap.size w w':=by
 have hu37:=Tryz.underlying37
 have HR0:=am hr0
 have HC0:=am hc0
 clear hr0 hc0
 have HB:=am (Below.refl w.heap.size w)
 have H:=h
 clear h
 unfold spec_ciCurvatures.f at H
 have H':=am H
 clear H
 go_enter Tryz.func42,Tryz.ntmps42
 go_wp2
 go_loopg [3,8] k (fun kq v3 v8 w'=>∃(x3_1:List Int) (x8_1:Int),v8= .int .i64 x8_1∧Aside0 (spec_ciCurvatures.l0 kq x3_1 l0 (l0.length:Int) x8_1=some r)∧Aside0 (kq≤k)∧Aside0 (Kd.R (Kd.int .i64) 3 w' w.heap.size (fun _=>True) v3 x3_1)∧Aside0 (Below w.heap.size w w'))
 case atStart=>exact⟨(([]:List Int)),(0),Z7,H',⟨Nat.le_refl _⟩,⟨Z23⟩,⟨ZB⟩⟩
 clear H'
 obtain⟨x3_1,x8_1,rfl,HA,HK1,HO_3,HB⟩:=hrel
 obtain _|k1:=gk
 ·
  exact absurd HA.out (by simp[spec_ciCurvatures.l0])
 have H:=HA.out
 clear HA
 simp only[spec_ciCurvatures.l0]at H
 by_cases c2:x8_1<(l0.length:Int)
 rotate_left
 ·
  rw[if_neg c2]at H
  have c2b0:=decide_eq_false c2
  clear c2
  obtain rfl:=Option.some.inj H
  go_wp2
  go_ret
  exact⟨_,Z6,(Z1 HO_3),ZB⟩
 rw[if_pos c2]at H
 have c2b0:=decide_eq_true c2
 clear c2
 obtain⟨c3,H⟩:=ip_ H
 have c3b0:=decide_eq_true c3
 clear c3
 obtain⟨c4,H⟩:=ip_ H
 have c4b0:=decide_eq_true c4
 clear c4
 obtain⟨c5,H⟩:=ip_ H
 have LMc5:=am c5
 clear c5
 obtain⟨y_a,hy_a⟩:∃y_:List Int,y_=(x3_1++[(rd_T37 l0 x8_1).f1]):=⟨_,rfl⟩
 replace H:(spec_ciCurvatures.l0 k1 y_a l0 (l0.length:Int) (wrap64 (x8_1+1)))=some r:=Z8
 have Ny_a:=am hy_a
 clear hy_a
 have H':=am H
 clear H
 have p272:0≤(x8_1:Int):=of_decide_eq_true Z5
 have q272:x8_1<(l0.length:Int):=of_decide_eq_true Z5
 obtain⟨ad272,e272,hx272_0,hx272_1,hx272_2,hx272_3⟩:=at_T37 HR0.1 x8_1 p272 q272
 cases e272
 replace hx272_0:=(HB.1.cell (World.block_lt_of_cell? w _ hx272_0)).trans hx272_0
 replace hx272_1:=(HB.1.cell (World.block_lt_of_cell? w _ hx272_1)).trans hx272_1
 replace hx272_2:=(HB.1.cell (World.block_lt_of_cell? w _ hx272_2)).trans hx272_2
 replace hx272_3:=(HB.1.cell (World.block_lt_of_cell? w _ hx272_3)).trans hx272_3
 replace p272:=eq_true p272
 replace q272:=eq_true q272
 go_wp2_with (first|((with_reducible refine gd_ 5 rfl ?_);refine boxN_ 5 #[.int .i64 0,.int .i64 0,.int .i64 0,.int .i64 0] 37 ?_;intro gboa hg w6 hbox hb;replace HO_3:=am (Kd.R_below (Z1 HO_3) hb);have BKoa:=am hbox;have GWoa:=gG_ hg;have GEoa:=gG_ hg;replace HB:=bw_ hb;clear hb hbox hg;obtain⟨_,_,_,_,_,_,_,_⟩:=cz4_ BKoa)|((with_reducible refine gate_builtin (b:= .append) (xs:=#[.tmp 12,.tmp 15]) rfl ?_);at_builtin;refine Kd.R_append (Kd.int .i64) (w0:=w) w.heap.size rfl (.tmp 12) (.tmp 15) 30 3 (.int .i64 0) 8 rfl Tryz.underlying30 info3 rfl (by decide) (by omega) u3 x3_1 ((rd_T37 l0 x8_1).f1) [.int .i64 ((rd_T37 l0 x8_1).f1)] (fun _=>True) (fun _=>False) rfl Z56 ?aP (fun _ hk=>hk.elim) ?aF ?aO ?aB ?aS ?aL ?_;(case aP=>exact rfl);(case aB=>exact ZB);(case aF=>exact(fun _ _=>trivial));(case aO=>exact(by(with_reducible repeat(first|apply Kd.R_alloc|apply Kd.R_drewN|apply Kd.R_drew));exact Kd.R_mono (Kd.R_far (p:=⟨gboa,3,none⟩) (Kd.R_far (p:=⟨gboa,2,none⟩) (Kd.R_far (p:=⟨gboa,1,none⟩) (Kd.R_far (p:=⟨gboa,0,none⟩) (Kd.R_types HO_3.1 BKoa.1 (by decide)) (fun _ hk=>hk.2) (.int .i64 ((rd_T37 l0 x8_1).f0))) (fun _ hk=>hk.2) (.int .i64 ((rd_T37 l0 x8_1).f1))) (fun _ hk=>hk.2) (.int .i64 ((rd_T37 l0 x8_1).f2))) (fun _ hk=>hk.2) (.int .i64 ((rd_T37 l0 x8_1).f3))) (fun _ hk=>trivial)));(case aS=>exact zs_);(case aL=>have:=LMc5.out;omega);intro v275 w8 ho hb hg hat;rw[←Ny_a.1]at ho;replace BKoa:=am (blk_grown (bb_ BKoa) hg (Kd.R_ne HO_3.1 BKoa.1 (by decide)));replace HB:=am hb;have HOob:=am ho;clear HO_3;clear ho hb hg hat))
 go_roundg k1
 case measure=>have:=HK1.1;omega
 exact⟨(y_a),(wrap64 (x8_1+1)),Z7,H',⟨Z34⟩,⟨(Z1 HOob)⟩,⟨ZB⟩⟩
mutual
def spec_apGood.j0:Nat→List Int→Bool→Option (Bool)
  |0,_,_=>none
  |k+1,x0,x14=>if x14=true then(some false)else(spec_apGood.l0 k 0 0 x0 (x0.length:Int) 0)
def spec_apGood.l0:Nat→Int→Int→List Int→Int→Int→Option (Bool)
  |0,_,_,_,_,_=>none
  |k+1,x3,x4,x15,x16,x17=>if x17<x16 then(if 0≤x17 then(if x17<(x15.length:Int)then(spec_apGood.l0 k (wrap64 (x3+(rd x15 x17))) (wrap64 (x4+(wrap64 ((rd x15 x17)*(rd x15 x17))))) x15 x16 (wrap64 (x17+1)))else(none))else(none))else(if x3>0 then(some ((wrap64 (2*x4))==(wrap64 (x3*x3))))else(some false))
end
def spec_apGood.f (k:Nat) (l0:List Int):Option (Bool):=if(l0.length:Int)=4 then((spec_l1All.f k l0 (-100000) 100000).bind fun t277=>(spec_apGood.j0 k l0 (!t277)))else(spec_apGood.j0 k l0 true)
theorem spec_apGood.mono_l:∀k,(∀y0 y1,LeO (spec_apGood.j0 k y0 y1) (spec_apGood.j0 (k+1) y0 y1))∧(∀y0 y1 y2 y3 y4,LeO (spec_apGood.l0 k y0 y1 y2 y3 y4) (spec_apGood.l0 (k+1) y0 y1 y2 y3 y4))
  |0=>⟨fun _ _ r h=>by simp[spec_apGood.j0]at h,fun _ _ _ _ _ r h=>by simp[spec_apGood.l0]at h⟩
  |k+1=>by
    obtain⟨ih0,ih1⟩:=spec_apGood.mono_l k
    refine⟨?_,?_⟩
    · intro y0 y1
      unfold spec_apGood.j0
      exact mo_
    · intro y0 y1 y2 y3 y4
      unfold spec_apGood.l0
      exact mo_
theorem spec_apGood.mono:∀a0 k,LeO (spec_apGood.f k a0) (spec_apGood.f (k+1) a0):=by
  intro a0 k
  obtain⟨ih0,ih1⟩:=spec_apGood.mono_l k
  unfold spec_apGood.f
  exact mo_
set_option maxHeartbeats 8000000 in
set_option maxRecDepth 100000 in
theorem spec_apGood.calls (k:Nat) (A0:Option Addr) (c0:Nat) (l0:List Int) (r:Bool) (w:World) (hr0:Kd.C (Kd.int .i64) w A0 l0.length l0) (hc0:l0.length≤c0) (h:spec_apGood.f k l0=some r):
  Calls Tryz.prog 43 #[.slice A0 l0.length c0] w fun e w'=>e= .returned (.bool r)∧Drawn0 w w':=by
 have HR0:=am hr0
 have HC0:=am hc0
 clear hr0 hc0
 have H:=h
 clear h
 unfold spec_apGood.f at H
 have HC2:=am H
 clear H
 go_enter Tryz.func43,Tryz.ntmps43
 go_upto_region 1 with(fail)
 go_cut[14] (fun v14 wc=>∃(kq:Nat) (x14_1:Bool),v14= .bool x14_1∧Aside0 (spec_apGood.j0 kq l0 x14_1=some r)∧Aside0 (kq≤k)∧Drawn0 w wc)
 case first=>
  have H:=HC2.1
  clear HC2
  by_cases c3:(l0.length:Int)=4
  rotate_left
  ·
   rw[if_neg c3]at H
   obtain⟨c3b0,c3b1⟩:=ne2_ c3
   (first|rw[c3b0]|(simp only[i64_w,i32_w];rw[c3b0])|rw[c3b1]|skip)
   have H':=am H
   clear H
   go_wp2
   go_meet
   exact⟨_,(true),Z7,H',⟨Z35⟩,Z16⟩
  rw[if_pos c3]at H
  obtain⟨c3b0,c3b1⟩:=eq2_ c3
  clear c3
  (first|rw[c3b0]|(simp only[i64_w,i32_w];rw[c3b0])|rw[c3b1]|skip)
  obtain⟨t277,A4,H⟩:=bs_ H
  try dsimp only at H
  have H':=am H
  clear H
  go_wp2_with (first|(go_at_call 69;(with_reducible refine(spec_l1All.calls k _ _ l0 (-100000) 100000 t277 _ ?side1 ?side2 A4.1).mono ?_);(case side1=>exact(Z11 HR0));(case side2=>exact HC0.1);rintro e w' ⟨rfl,⟨nd,rfl⟩⟩))
  go_meet
  exact⟨_,(!t277),Z7,H',⟨Z35⟩,Z16⟩
 clear HC2
 obtain⟨kq,x14_1,rfl,HA,HJ1,⟨mc1,rfl⟩⟩:=hcut
 obtain _|kj1:=kq
 ·
  exact absurd HA.out (by simp[spec_apGood.j0])
 have H:=HA.out
 clear HA
 simp only[spec_apGood.j0]at H
 by_cases c5:x14_1=true
 ·
  subst c5
  rw[if_pos rfl]at H
  obtain rfl:=Option.some.inj H
  go_wp2
  go_ret
  exact⟨Z7,Z16⟩
 replace c5:=Bool.eq_false_iff.mpr c5
 subst c5
 rw[if_neg (show¬(false=true) by decide)]at H
 have H':=am H
 clear H
 go_wp2
 go_loopg [3,4,17] kj1 (fun kq v3 v4 v17 w'=>∃(x3_2:Int) (x4_2:Int) (x17_2:Int),v3= .int .i64 x3_2∧v4= .int .i64 x4_2∧v17= .int .i64 x17_2∧Aside0 (spec_apGood.l0 kq x3_2 x4_2 l0 (l0.length:Int) x17_2=some r)∧Aside0 (kq≤kj1)∧Drawn0 w w')
 case atStart=>exact⟨(0),(0),(0),Z7,Z7,Z7,H',⟨Nat.le_refl _⟩,Z16⟩
 clear H'
 obtain⟨x3_2,x4_2,x17_2,rfl,rfl,rfl,HA,HK2,⟨m2,rfl⟩⟩:=hrel
 obtain _|k2:=gk
 ·
  exact absurd HA.out (by simp[spec_apGood.l0])
 have H:=HA.out
 clear HA
 simp only[spec_apGood.l0]at H
 by_cases c6:x17_2<(l0.length:Int)
 rotate_left
 ·
  rw[if_neg c6]at H
  have c6b0:=decide_eq_false c6
  clear c6
  by_cases c9:x3_2>0
  ·
   rw[if_pos c9]at H
   have c9b0:decide (0<x3_2)=true:=decide_eq_true c9
   clear c9
   obtain rfl:=Option.some.inj H
   go_wp2
   go_ret
   exact⟨Z7,Z16⟩
  rw[if_neg c9]at H
  have c9b0:decide (0<x3_2)=false:=decide_eq_false c9
  clear c9
  obtain rfl:=Option.some.inj H
  go_wp2
  go_ret
  exact⟨Z7,Z16⟩
 rw[if_pos c6]at H
 have c6b0:=decide_eq_true c6
 clear c6
 obtain⟨c7,H⟩:=ip_ H
 have c7b0:=decide_eq_true c7
 clear c7
 obtain⟨c8,H⟩:=ip_ H
 have c8b0:=decide_eq_true c8
 clear c8
 have H':=am H
 clear H
 have p278:0≤(x17_2:Int):=of_decide_eq_true Z5
 have q278:x17_2<(l0.length:Int):=of_decide_eq_true Z5
 obtain⟨ad278,e278,hx278_0⟩:=Kd.at_int HR0.1 x17_2 p278 q278
 cases e278
 replace p278:=eq_true p278
 replace q278:=eq_true q278
 go_wp2
 go_roundg k2
 case measure=>have:=HJ1.1;have:=HK2.1;omega
 exact⟨(wrap64 (x3_2+(rd l0 x17_2))),(wrap64 (x4_2+(wrap64 ((rd l0 x17_2)*(rd l0 x17_2))))),(wrap64 (x17_2+1)),Z7,Z7,Z7,H',⟨(by have:=HJ1.1;have:=HK2.1;omega)⟩,Z16⟩
def spec_l1Own.f (l0:List Int):Option (List Int):=(some (([]:List Int):List Int)).bind fun y279=>(if y279.length+l0.length<17592186044416 then(some (y279++l0))else(none))
set_option maxHeartbeats 8000000 in
set_option maxRecDepth 100000 in
theorem spec_l1Own.calls (A0:Option Addr) (c0:Nat) (l0:List Int) (r:List Int) (w:World) (hr0:Kd.C (Kd.int .i64) w A0 l0.length l0) (hc0:l0.length≤c0) (h:spec_l1Own.f l0=some r):
  Calls Tryz.prog 77 #[.slice A0 l0.length c0] w fun e w'=>∃v0_:Value,e= .returned (v0_)∧Kd.R (Kd.int .i64) 3 w' w.heap.size (fun _=>True) v0_ r∧Below w.heap.size w w':=by
 have HR0:=am hr0
 have HC0:=am hc0
 clear hr0 hc0
 have HB:=am (Below.refl w.heap.size w)
 have H:=h
 clear h
 unfold spec_l1Own.f at H
 obtain⟨y_a,hy_a⟩:∃y_:List Int,y_=(([]:List Int)):=⟨_,rfl⟩
 replace H:(if y_a.length+l0.length<17592186044416 then(some (y_a++l0))else(none))=some r:=Z8
 have Ny_a:=am hy_a
 clear hy_a
 obtain⟨c2,H⟩:=ip_ H
 have LMc2:=am c2
 clear c2
 obtain⟨y_b,hy_b⟩:∃y_:List Int,y_=(y_a++l0):=⟨_,rfl⟩
 replace H:(some y_b)=some r:=Z14
 have Ny_b:=am hy_b
 clear hy_b
 obtain rfl:=Option.some.inj H
 go_enter Tryz.func77,Tryz.ntmps77
 go_wp2_with (first|((with_reducible refine gd_ 3 rfl ?_);refine Kd.R_lit (Kd.int .i64) _ 3 ?hg (N:=3) ?hd (xs:=([]:List Int)) (inner:=[]) (ok:=fun _=>True) (okp:=fun _=>True) ?hr ?hp (fun _ hk=>hk) trivial (Below.refl _ _) (Nat.le_refl _) (by simp) ?_;(case hd=>rfl);(case hg=>rfl);(case hr=>first|(go_simp;done)|(go_simp;rfl));(case hp=>exact(Reps.none _ _));intro v280 w3 ho4 hb hg_ hnew_;clear hg_ hnew_;(first|rw[←Ny_a.1]at ho4|(simp only[Int.reduceToNat]at ho4;rw[←Ny_a.1]at ho4));have HOoa:=am (Kd.R_lower ho4 zs_);replace HB:=bw_ hb;clear hb ho4)|((with_reducible refine gate_builtin (b:= .append) (xs:=#[.tmp 3,.tmp 4]) rfl ?_);at_builtin;refine Kd.R_append_rows (Kd.int .i64) (w0:=w) w.heap.size rfl (.tmp 3) (.tmp 4) 30 3 (.int .i64 0) 8 rfl Tryz.underlying30 info3 rfl (by decide) (by omega) v280 y_a l0 _ _ _ (fun _=>True) (fun _=>False) rfl rfl ?aO ?aR (fun _ _ h=>h) (fun _ h=>h.elim) ?aF ?aB ?aS ?aL ?_;(case aR=>exact(Z15 HR0));(case aB=>exact ZB);(case aF=>exact(fun _ _=>trivial));(case aO=>exact(Z1 HOoa));(case aS=>exact zs_);(case aL=>have:=LMc2.out;omega);intro v283 w5 ho hb hg hat;rw[←Ny_b.1]at ho;replace HB:=am hb;have HOob:=am ho;clear HOoa;clear ho hb hg hat))
 go_ret
 exact⟨_,Z6,(Z1 HOob),ZB⟩
def spec_apSum.f (l0:List Int):Option (Int):=if 0<(l0.length:Int)then(if 1<(l0.length:Int)then(if 2<(l0.length:Int)then(if 3<(l0.length:Int)then(some (wrap64 ((wrap64 ((wrap64 ((rd l0 0)+(rd l0 1)))+(rd l0 2)))+(rd l0 3))))else(none))else(none))else(none))else(none)
set_option maxHeartbeats 8000000 in
set_option maxRecDepth 100000 in
theorem spec_apSum.calls (A0:Option Addr) (c0:Nat) (l0:List Int) (r:Int) (w:World) (hr0:Kd.C (Kd.int .i64) w A0 l0.length l0) (hc0:l0.length≤c0) (h:spec_apSum.f l0=some r):
  Calls Tryz.prog 94 #[.slice A0 l0.length c0] w fun e w'=>e= .returned (.int .i64 r)∧Drawn0 w w':=by
 have HR0:=am hr0
 have HC0:=am hc0
 clear hr0 hc0
 have H:=h
 clear h
 unfold spec_apSum.f at H
 obtain⟨c2,H⟩:=ip_ H
 have c2b0:=decide_eq_true c2
 have c2b1:decide (0<l0.length)=true:=decide_eq_true (by omega)
 clear c2
 obtain⟨c3,H⟩:=ip_ H
 have c3b0:=decide_eq_true c3
 have c3b1:decide (1<l0.length)=true:=decide_eq_true (by omega)
 clear c3
 obtain⟨c4,H⟩:=ip_ H
 have c4b0:=decide_eq_true c4
 have c4b1:decide (2<l0.length)=true:=decide_eq_true (by omega)
 clear c4
 obtain⟨c5,H⟩:=ip_ H
 have c5b0:=decide_eq_true c5
 have c5b1:decide (3<l0.length)=true:=decide_eq_true (by omega)
 clear c5
 obtain rfl:=Option.some.inj H
 have p285:0≤(0:Int):=(by omega)
 have q285:0<(l0.length:Int):=of_decide_eq_true Z5
 obtain⟨ad285,e285,hx285_0⟩:=Kd.at_int HR0.1 0 p285 q285
 cases e285
 have qi285:(0<l0.length)=True:=eq_true (by omega)
 (try rw[show((0:Int)).toNat=0 from rfl]at hx285_0)
 (try rw[Addr.add_zero']at hx285_0)
 replace p285:=eq_true p285
 replace q285:=eq_true q285
 have p286:0≤(1:Int):=(by omega)
 have q286:1<(l0.length:Int):=of_decide_eq_true Z5
 obtain⟨ad286,e286,hx286_0⟩:=Kd.at_int HR0.1 1 p286 q286
 obtain rfl:ad285=ad286:=(by injection e286)
 (try simp only[show(1:Int).toNat=1 from rfl,Nat.reduceMul,Nat.reduceEqDiff,Go.Addr.add,↓reduceIte]at hx286_0)
 have qi286:(1<l0.length)=True:=eq_true (by omega)
 (try rw[show((1:Int)).toNat=1 from rfl]at hx286_0)
 replace p286:=eq_true p286
 replace q286:=eq_true q286
 have p287:0≤(2:Int):=(by omega)
 have q287:2<(l0.length:Int):=of_decide_eq_true Z5
 obtain⟨ad287,e287,hx287_0⟩:=Kd.at_int HR0.1 2 p287 q287
 obtain rfl:ad285=ad287:=(by injection e287)
 (try simp only[show(2:Int).toNat=2 from rfl,Nat.reduceMul,Nat.reduceEqDiff,Go.Addr.add,↓reduceIte]at hx287_0)
 have qi287:(2<l0.length)=True:=eq_true (by omega)
 (try rw[show((2:Int)).toNat=2 from rfl]at hx287_0)
 replace p287:=eq_true p287
 replace q287:=eq_true q287
 have p288:0≤(3:Int):=(by omega)
 have q288:3<(l0.length:Int):=of_decide_eq_true Z5
 obtain⟨ad288,e288,hx288_0⟩:=Kd.at_int HR0.1 3 p288 q288
 obtain rfl:ad285=ad288:=(by injection e288)
 (try simp only[show(3:Int).toNat=3 from rfl,Nat.reduceMul,Nat.reduceEqDiff,Go.Addr.add,↓reduceIte]at hx288_0)
 have qi288:(3<l0.length)=True:=eq_true (by omega)
 (try rw[show((3:Int)).toNat=3 from rfl]at hx288_0)
 replace p288:=eq_true p288
 replace q288:=eq_true q288
 go_enter Tryz.func94,Tryz.ntmps94
 go_wp2
 repeat(go_quiet (fail);try go_wp2)
 go_ret
 exact⟨Z7,Z16⟩
def spec_apSwap.f (l0:List Int) (a1:Int):Option (List Int):=(spec_l1Own.f l0).bind fun t289=>((spec_apSum.f l0).bind fun t292=>(if 0≤a1 then(if a1<(l0.length:Int)then(if a1<(t289.length:Int)then(some (t289.set (a1:Int).toNat (wrap64 ((wrap64 (2*(wrap64 (t292-(rd l0 a1)))))-(rd l0 a1)))))else(none))else(none))else(none)))
def spec_apSwap.T2:Bool × List (List Nat × List Nat):=(true,[([],[]),([],[]),([],[]),([2],[2]),([],[]),([],[]),([4,5],[4,5]),([6],[6]),([3,7],[3,7]),([8],[8]),([],[]),([],[]),([10,11],[10,11]),([12],[12]),([9,13],[9,13]),([0,1,0,1,2,3,4,5,6,7,8,9,10,11,12,13,14],[0,1]),([15,14,3,0,1,2,3,4,5,6,7,8,9,10,11,12,13,14],[14,15])])
def spec_apSwap.B2:List Nat:=[0,0,0,4,0,0,48,112,252,508,0,0,3072,7168,16380,32767,65535]
theorem spec_apSwap.tab2:rtab .any (opsOf Tryz.f76 2)=spec_apSwap.T2:=by kernel_rfl
theorem spec_apSwap.bits2:waitsOk spec_apSwap.T2.2 spec_apSwap.B2=true:=by kernel_rfl
set_option maxHeartbeats 8000000 in
set_option maxRecDepth 100000 in
theorem spec_apSwap.calls (A0:Option Addr) (c0:Nat) (l0:List Int) (a1:Int) (r:List Int) (w:World) (hr0:Kd.C (Kd.int .i64) w A0 l0.length l0) (hc0:l0.length≤c0) (h:spec_apSwap.f l0 a1=some r):
  Calls Tryz.prog 76 #[.slice A0 l0.length c0,.int .i64 a1] w fun e w'=>∃v0_:Value,e= .returned (v0_)∧Kd.R (Kd.int .i64) 3 w' w.heap.size (fun _=>True) v0_ r∧Below w.heap.size w w':=by
 have HR0:=am hr0
 have HC0:=am hc0
 clear hr0 hc0
 have HB:=am (Below.refl w.heap.size w)
 have H:=h
 clear h
 unfold spec_apSwap.f at H
 obtain⟨t289,A3,H⟩:=bs_ H
 try dsimp only at H
 obtain⟨t292,A4,H⟩:=bs_ H
 try dsimp only at H
 obtain⟨c5,H⟩:=ip_ H
 have c5b0:=decide_eq_true c5
 clear c5
 obtain⟨c6,H⟩:=ip_ H
 have c6b0:=decide_eq_true c6
 clear c6
 obtain⟨c7,H⟩:=ip_ H
 have c7b0:=decide_eq_true c7
 clear c7
 obtain⟨y_a,hy_a⟩:∃y_:List Int,y_=(t289.set (a1:Int).toNat (wrap64 ((wrap64 (2*(wrap64 (t292-(rd l0 a1)))))-(rd l0 a1)))):=⟨_,rfl⟩
 replace H:(some y_a)=some r:=Z8
 have Ny_a:=am hy_a
 clear hy_a
 obtain rfl:=Option.some.inj H
 go_enter Tryz.func76,Tryz.ntmps76
 try go_wp2_with (first|((with_reducible refine gc_ 77 rfl ?_);refine gE_ (some 7) Tryz.func77 (spec_l1Own.calls _ _ l0 t289 _ ?side1 ?side2 A3.1) ?_;(case side1=>exact(Z11 HR0));(case side2=>exact HC0.1);rintro v290 w9 ⟨ho0,hb⟩;have HOob:=am (Kd.R_lower ho0 zs_);replace HB:=bw_ hb;clear hb;(try clear ho0)))
 have n0_:=am (Kd.R_drew HOob.1)
 have n1_:=am (below_drew1 HB.1)
 clear HOob
 clear HB
 have HOob:=n0_
 have HB:=n1_
 clear n0_ n1_
 have p293:0≤(a1:Int):=of_decide_eq_true Z5
 have q293:a1<(l0.length:Int):=of_decide_eq_true Z5
 obtain⟨ad293,e293,hx293_0⟩:=Kd.at_int HR0.1 a1 p293 q293
 have hw293_0:=hx293_0
 cases e293
 replace hx293_0:=(HB.1.cell (World.block_lt_of_cell? w _ hx293_0)).trans hx293_0
 replace p293:=eq_true p293
 replace q293:=eq_true q293
 have p294:0≤(a1:Int):=of_decide_eq_true Z5
 have q294:a1<(l0.length:Int):=of_decide_eq_true Z5
 obtain⟨ad294,e294,hx294_0⟩:=Kd.at_int HR0.1 a1 p294 q294
 have hw294_0:=hx294_0
 obtain rfl:ad293=ad294:=(by injection e294)
 replace hx294_0:=(HB.1.cell (World.block_lt_of_cell? w _ hx294_0)).trans hx294_0
 replace p294:=eq_true p294
 replace q294:=eq_true q294
 refine start_ (n:=17) (S:=fun w'=>w'.cell? (ad293.add (a1).toNat)=some (.int .i64 (rd l0 a1))∧w'.cell? (ad293.add (a1).toNat)=some (.int .i64 (rd l0 a1))) (ds:=[16]) M2 Z19 rfl rfl ⟨((HB.1.cell (World.block_lt_of_cell? w _ hw293_0)).trans hw293_0),((HB.1.cell (World.block_lt_of_cell? w _ hw294_0)).trans hw294_0)⟩ (fun hHeld=>?_);refine with_tabW spec_apSwap.tab2 spec_apSwap.bits2 (fun HT_ HW_=>?_)
 generalize w9.drew=w10 at HOob HB hx293_0 hx294_0 hHeld ⊢
 refine pury_ 0 8 M10 HT_ ?_
 refine pury_ 1 9 M13 HT_ ?_
 refine pury_ 2 10 M27 HT_ ?_
 refine pury_ 4 12 M28 HT_ ?_
 refine pury_ 5 13 M29 HT_ ?_
 refine pury_ 6 14 M30 HT_ ?_
 refine pury_ 10 18 M31 HT_ ?_
 refine pury_ 11 19 M32 HT_ ?_
 refine pury_ 12 20 M33 HT_ ?_
 refine taky2_ 7 15 M35 HT_ HW_ hHeld ?_
 refine taky2_ 13 21 M36 HT_ HW_ hHeld ?_
 refine one_ (i:=3) (N:=some 11) M46 rfl rfl (one_of HT_.out Z19) (by decide) (fun K hK=>?_)
 refine goes_ Tryz.func94 Z19 rfl #[.slice (some ad293) l0.length c0] (by rfl) rfl rfl Z18 ?_
 with_reducible refine(spec_apSum.calls _ _ l0 t292 _ ?side1 ?side2 A4.1).mono ?_
 (case side1=>exact(Z15 HR0))
 (case side2=>exact HC0.1)
 rintro e w' ⟨rfl,⟨nd,rfl⟩⟩
 refine⟨_,rfl,?_⟩
 have p8:0≤(a1:Int):=of_decide_eq_true Z5
 have q8:(a1:Int)<((t289.length:Int):Int):=of_decide_eq_true Z5
 obtain⟨go8,co8,eo8,gboa,gl8,cl8,HG8⟩:=Kd.R_form HOob.1 (by omega)
 (first|cases eo8|(injection eo8 with ea_ en_ ec_;(first|subst ea_|(injection ea_ with ea_;subst ea_));subst ec_;clear en_))
 have GB8:=am gboa
 have GG8:=am HG8
 clear gboa gl8 HG8
 obtain⟨hx8_0,hf8_0⟩:=Kd.R_celln 0 HOob.1 (a1:Int) p8 q8
 replace p8:=eq_true p8
 replace q8:=eq_true q8
 have HP11:=Kd.R_putn HOob.1 (a1:Int) (wrap64 ((wrap64 (2*(wrap64 (t292-(rd l0 a1)))))-(rd l0 a1)))
 rw[←Ny_a.1]at HP11
 have HQ11:=am HP11
 clear HP11
 refine hK.out _ _ ⟨((HB.1.cell (World.block_lt_of_cell? w _ hw293_0)).trans hw293_0),((HB.1.cell (World.block_lt_of_cell? w _ hw294_0)).trans hw294_0)⟩ (fun hHeld=>?_)
 clear hK K
 refine norm_ (a':=?_) ?_ ?_
 rotate_left
 ·
  show Act.put _ (some 11) _=_
  simp only[Act.put,List.setIfInBounds_toArray,List.set_cons_zero,List.set_cons_succ,i64_w,i32_w]
  rfl
 refine pury_ 8 16 M49 HT_ ?_
 refine pury_ 9 17 M56 HT_ ?_
 refine pury_ 14 22 M60 HT_ ?_
 refine pury_ 15 23 M62 HT_ ?_
 refine last_ (i:=16) (N:=none) M66 rfl rfl (one_of HT_.out Z19) (by decide) (fun K hK=>?_)
 refine skip_ (w1:=?_) (by rfl) rfl ?_ ?_
 rotate_left
 ·
  go_simp
  rfl
 refine hK.out _ _ ?_
 clear hK K
 refine done_ (done_of HT_.out Z19) ?_
 try go_wp2
 go_ret
 exact⟨_,Z6,(by(with_reducible repeat(first|apply Kd.R_alloc|apply Kd.R_drewN|apply Kd.R_drew));exact HQ11.out),(by repeat(first|(with_reducible first|exact HB.1|apply below_alloc|apply pw_below_drewN|apply below_drew1|refine below_set ?_ GB8.out)|exact HB.1))⟩
def spec_apDown.l0:Nat→List Int→Int→List Int→Int→Int→Option (Int)
  |0,_,_,_,_,_=>none
  |k+1,x0,x3,x6,x7,x8=>if x8<x7 then(if 0≤x8 then(if x8<(x6.length:Int)then(if 0≤x3 then(if x3<(x0.length:Int)then(if(rd x6 x8)>(rd x0 x3)then(spec_apDown.l0 k x0 x8 x6 x7 (wrap64 (x8+1)))else(spec_apDown.l0 k x0 x3 x6 x7 (wrap64 (x8+1))))else(none))else(none))else(none))else(none))else((spec_apSwap.f x0 x3).bind fun t298=>(if 0≤x3 then(if x3<(t298.length:Int)then(if x3<(x0.length:Int)then(if(rd t298 x3)≥(rd x0 x3)then(some (-1))else(some x3))else(none))else(none))else(none)))
def spec_apDown.f (k:Nat) (l0:List Int):Option (Int):=spec_apDown.l0 k l0 0 l0 (l0.length:Int) 0
theorem spec_apDown.mono_l:∀k,(∀y0 y1 y2 y3 y4,LeO (spec_apDown.l0 k y0 y1 y2 y3 y4) (spec_apDown.l0 (k+1) y0 y1 y2 y3 y4))
  |0=>fun _ _ _ _ _ r h=>by simp[spec_apDown.l0]at h
  |k+1=>by
    have ih0:=spec_apDown.mono_l k
    · intro y0 y1 y2 y3 y4
      unfold spec_apDown.l0
      exact mo_
theorem spec_apDown.mono:∀a0 k,LeO (spec_apDown.f k a0) (spec_apDown.f (k+1) a0):=by
  intro a0 k
  have ih0:=spec_apDown.mono_l k
  unfold spec_apDown.f
  exact mo_
def spec_apDown.T8:Bool × List (List Nat × List Nat):=(true,[([],[]),([],[]),([0,1],[0,1]),([],[]),([2,3],[2,3]),([4],[4]),([],[]),([],[]),([6,7],[6,7]),([8],[8]),([5,9],[5,9])])
def spec_apDown.B8:List Nat:=[0,0,3,0,15,31,0,0,192,448,1023]
theorem spec_apDown.tab8:rtab .any (opsOf Tryz.f44 8)=spec_apDown.T8:=by kernel_rfl
theorem spec_apDown.bits8:waitsOk spec_apDown.T8.2 spec_apDown.B8=true:=by kernel_rfl
set_option maxHeartbeats 8000000 in
set_option maxRecDepth 100000 in
theorem spec_apDown.calls (k:Nat) (A0:Option Addr) (c0:Nat) (l0:List Int) (r:Int) (w:World) (hr0:Kd.C (Kd.int .i64) w A0 l0.length l0) (hc0:l0.length≤c0) (h:spec_apDown.f k l0=some r):
  Calls Tryz.prog 44 #[.slice A0 l0.length c0] w fun e w'=>e= .returned (.int .i64 r)∧Below w.heap.size w w':=by
 have HR0:=am hr0
 have HC0:=am hc0
 clear hr0 hc0
 have HB:=am (Below.refl w.heap.size w)
 have H:(spec_apDown.l0 k l0 0 l0 (l0.length:Int) 0)=some r:=h
 clear h
 have H':=am H
 clear H
 go_enter Tryz.func44,Tryz.ntmps44
 go_wp2
 go_loopg [3,8] k (fun kq v3 v8 w'=>∃(x3_1:Int) (x8_1:Int),v3= .int .i64 x3_1∧v8= .int .i64 x8_1∧Aside0 (spec_apDown.l0 kq l0 x3_1 l0 (l0.length:Int) x8_1=some r)∧Aside0 (kq≤k)∧Aside0 (Below w.heap.size w w'))
 case atStart=>exact⟨(0),(0),Z7,Z7,H',⟨Nat.le_refl _⟩,⟨ZB⟩⟩
 clear H'
 obtain⟨x3_1,x8_1,rfl,rfl,HA,HK1,HB⟩:=hrel
 obtain _|k1:=gk
 ·
  exact absurd HA.out (by simp[spec_apDown.l0])
 have H:=HA.out
 clear HA
 simp only[spec_apDown.l0]at H
 by_cases c2:x8_1<(l0.length:Int)
 ·
  rw[if_pos c2]at H
  have c2b0:=decide_eq_true c2
  clear c2
  obtain⟨c3,H⟩:=ip_ H
  have c3b0:=decide_eq_true c3
  clear c3
  obtain⟨c4,H⟩:=ip_ H
  have c4b0:=decide_eq_true c4
  clear c4
  obtain⟨c5,H⟩:=ip_ H
  have c5b0:=decide_eq_true c5
  clear c5
  obtain⟨c6,H⟩:=ip_ H
  have c6b0:=decide_eq_true c6
  clear c6
  by_cases c7:(rd l0 x8_1)>(rd l0 x3_1)
  ·
   rw[if_pos c7]at H
   have c7b0:decide ((rd l0 x3_1)<(rd l0 x8_1))=true:=decide_eq_true c7
   clear c7
   have H':=am H
   clear H
   have p296:0≤(x8_1:Int):=of_decide_eq_true Z5
   have q296:x8_1<(l0.length:Int):=of_decide_eq_true Z5
   obtain⟨ad296,e296,hx296_0⟩:=Kd.at_int HR0.1 x8_1 p296 q296
   cases e296
   replace hx296_0:=(HB.1.cell (World.block_lt_of_cell? w _ hx296_0)).trans hx296_0
   replace p296:=eq_true p296
   replace q296:=eq_true q296
   have p297:0≤(x3_1:Int):=of_decide_eq_true Z5
   have q297:x3_1<(l0.length:Int):=of_decide_eq_true Z5
   obtain⟨ad297,e297,hx297_0⟩:=Kd.at_int HR0.1 x3_1 p297 q297
   obtain rfl:ad296=ad297:=(by injection e297)
   replace hx297_0:=(HB.1.cell (World.block_lt_of_cell? w _ hx297_0)).trans hx297_0
   replace p297:=eq_true p297
   replace q297:=eq_true q297
   go_wp2
   go_roundg k1
   case measure=>have:=HK1.1;omega
   exact⟨(x8_1),(wrap64 (x8_1+1)),Z7,Z7,H',⟨Z34⟩,⟨ZB⟩⟩
  rw[if_neg c7]at H
  have c7b0:decide ((rd l0 x3_1)<(rd l0 x8_1))=false:=decide_eq_false c7
  clear c7
  have H':=am H
  clear H
  have p296:0≤(x8_1:Int):=of_decide_eq_true Z5
  have q296:x8_1<(l0.length:Int):=of_decide_eq_true Z5
  obtain⟨ad296,e296,hx296_0⟩:=Kd.at_int HR0.1 x8_1 p296 q296
  cases e296
  replace hx296_0:=(HB.1.cell (World.block_lt_of_cell? w _ hx296_0)).trans hx296_0
  replace p296:=eq_true p296
  replace q296:=eq_true q296
  have p297:0≤(x3_1:Int):=of_decide_eq_true Z5
  have q297:x3_1<(l0.length:Int):=of_decide_eq_true Z5
  obtain⟨ad297,e297,hx297_0⟩:=Kd.at_int HR0.1 x3_1 p297 q297
  obtain rfl:ad296=ad297:=(by injection e297)
  replace hx297_0:=(HB.1.cell (World.block_lt_of_cell? w _ hx297_0)).trans hx297_0
  replace p297:=eq_true p297
  replace q297:=eq_true q297
  go_wp2
  go_roundg k1
  case measure=>have:=HK1.1;omega
  exact⟨(x3_1),(wrap64 (x8_1+1)),Z7,Z7,H',⟨Z34⟩,⟨ZB⟩⟩
 rw[if_neg c2]at H
 have c2b0:=decide_eq_false c2
 clear c2
 obtain⟨t298,A8,H⟩:=bs_ H
 try dsimp only at H
 obtain⟨c9,H⟩:=ip_ H
 have c9b0:=decide_eq_true c9
 clear c9
 obtain⟨c10,H⟩:=ip_ H
 have c10b0:=decide_eq_true c10
 clear c10
 obtain⟨c11,H⟩:=ip_ H
 have c11b0:=decide_eq_true c11
 clear c11
 by_cases c12:(rd t298 x3_1)≥(rd l0 x3_1)
 ·
  rw[if_pos c12]at H
  have c12b0:decide ((rd l0 x3_1)≤(rd t298 x3_1))=true:=decide_eq_true c12
  clear c12
  obtain rfl:=Option.some.inj H
  try go_wp2
  have n0_:=am (below_drew1 HB.1)
  clear HB
  have HB:=n0_
  clear n0_
  have p302:0≤(x3_1:Int):=of_decide_eq_true Z5
  have q302:x3_1<(l0.length:Int):=of_decide_eq_true Z5
  obtain⟨ad302,e302,hx302_0⟩:=Kd.at_int HR0.1 x3_1 p302 q302
  have hw302_0:=hx302_0
  cases e302
  replace hx302_0:=(HB.1.cell (World.block_lt_of_cell? w _ hx302_0)).trans hx302_0
  replace p302:=eq_true p302
  replace q302:=eq_true q302
  refine start_ (n:=11) (S:=fun w'=>w'.cell? (ad302.add (x3_1).toNat)=some (.int .i64 (rd l0 x3_1))) (ds:=[]) M4 Z19 rfl rfl ((HB.1.cell (World.block_lt_of_cell? w _ hw302_0)).trans hw302_0) (fun hHeld=>?_);refine with_tabW spec_apDown.tab8 spec_apDown.bits8 (fun HT_ HW_=>?_)
  generalize wr.drew=w13 at HB hx302_0 hHeld ⊢
  refine pury_ 0 21 M12 HT_ ?_
  refine pury_ 1 22 M15 HT_ ?_
  refine pury_ 3 24 M17 HT_ ?_
  refine pury_ 6 27 M18 HT_ ?_
  refine pury_ 7 28 M19 HT_ ?_
  refine pury_ 8 29 M20 HT_ ?_
  refine take_ (i:=9) (N:=some 30) (v:=?_) (a':=?_) M21 rfl rfl (take_ofW HT_.out HW_.out Z19) (fun _ _ _ h=>h) (Or.inl ⟨(by rfl),?_⟩) hHeld ?_ ?_
  rotate_left
  ·
   rintro w' s0
   go_simp
   with_reducible rfl
  rotate_left
  ·
   simp only[Act.put,List.setIfInBounds_toArray,List.set_cons_zero,List.set_cons_succ,i64_w,i32_w]
   rfl
  refine one_ (i:=2) (N:=some 23) M38 rfl rfl (one_of HT_.out Z19) (by decide) (fun K hK=>?_)
  refine goes_ Tryz.func76 Z19 rfl #[.slice (some ad302) l0.length c0,.int .i64 x3_1] (by rfl) rfl rfl Z18 ?_
  with_reducible refine(spec_apSwap.calls _ _ l0 x3_1 t298 _ ?side1 ?side2 A8.1).mono ?_
  (case side1=>exact(Z15 HR0))
  (case side2=>exact HC0.1)
  rintro e w14 ⟨v299,rfl,ho0,hb⟩
  skip
  refine⟨_,rfl,?_⟩
  have n0_:=am (Kd.R_lower ho0 zs_)
  have n1_:=bw_ hb
  clear HB
  have HOoa:=n0_
  have HB:=n1_
  clear n0_ n1_
  (try clear hb)
  (try clear hb2)
  (try clear hk)
  (try clear hi)
  (try clear ho0)
  obtain⟨Ao15,co15,eo15⟩:=Kd.R_slice HOoa.1
  (first|subst eo15|(injection eo15 with f1_ f2_ f3_;have f4_:=f1_.symm;have f5_:=f3_.symm;clear f1_ f2_ f3_;subst f4_;subst f5_))
  have p301:0≤(x3_1:Int):=of_decide_eq_true Z5
  have q301:x3_1<(t298.length:Int):=of_decide_eq_true Z5
  obtain⟨ad301,e301,hx301_0⟩:=Kd.at_int (Kd.R_reads' HOoa.1).2.2 x3_1 p301 q301
  cases e301
  replace p301:=eq_true p301
  replace q301:=eq_true q301
  refine hK.out _ _ ((HB.1.cell (World.block_lt_of_cell? w _ hw302_0)).trans hw302_0) (fun hHeld=>?_)
  clear hK K
  refine norm_ (a':=?_) ?_ ?_
  rotate_left
  ·
   show Act.put _ (some 23) _=_
   simp only[Act.put,List.setIfInBounds_toArray,List.set_cons_zero,List.set_cons_succ,i64_w,i32_w]
   rfl
  refine pury_ 4 25 M41 HT_ ?_
  refine now_ (i:=5) (N:=some 26) (v:=?_) (a':=?_) M50 rfl rfl (one_of HT_.out Z19) (Or.inl ⟨(by rfl),?_⟩) ?_ ?_
  rotate_left
  ·
   rintro w' rfl
   go_simp
   with_reducible rfl
  rotate_left
  ·
   simp only[Act.put,List.setIfInBounds_toArray,List.set_cons_zero,List.set_cons_succ,i64_w,i32_w]
   rfl
  refine pury_ 10 31 M68 HT_ ?_
  refine done_ (done_of HT_.out Z19) ?_
  try go_wp2
  go_ret
  exact⟨Z6,ZB⟩
 rw[if_neg c12]at H
 have c12b0:decide ((rd l0 x3_1)≤(rd t298 x3_1))=false:=decide_eq_false c12
 clear c12
 obtain rfl:=Option.some.inj H
 try go_wp2
 have n0_:=am (below_drew1 HB.1)
 clear HB
 have HB:=n0_
 clear n0_
 have p302:0≤(x3_1:Int):=of_decide_eq_true Z5
 have q302:x3_1<(l0.length:Int):=of_decide_eq_true Z5
 obtain⟨ad302,e302,hx302_0⟩:=Kd.at_int HR0.1 x3_1 p302 q302
 have hw302_0:=hx302_0
 cases e302
 replace hx302_0:=(HB.1.cell (World.block_lt_of_cell? w _ hx302_0)).trans hx302_0
 replace p302:=eq_true p302
 replace q302:=eq_true q302
 refine start_ (n:=11) (S:=fun w'=>w'.cell? (ad302.add (x3_1).toNat)=some (.int .i64 (rd l0 x3_1))) (ds:=[]) M4 Z19 rfl rfl ((HB.1.cell (World.block_lt_of_cell? w _ hw302_0)).trans hw302_0) (fun hHeld=>?_);refine with_tabW spec_apDown.tab8 spec_apDown.bits8 (fun HT_ HW_=>?_)
 generalize wr.drew=w16 at HB hx302_0 hHeld ⊢
 refine pury_ 0 21 M12 HT_ ?_
 refine pury_ 1 22 M15 HT_ ?_
 refine pury_ 3 24 M17 HT_ ?_
 refine pury_ 6 27 M18 HT_ ?_
 refine pury_ 7 28 M19 HT_ ?_
 refine pury_ 8 29 M20 HT_ ?_
 refine take_ (i:=9) (N:=some 30) (v:=?_) (a':=?_) M21 rfl rfl (take_ofW HT_.out HW_.out Z19) (fun _ _ _ h=>h) (Or.inl ⟨(by rfl),?_⟩) hHeld ?_ ?_
 rotate_left
 ·
  rintro w' s0
  go_simp
  with_reducible rfl
 rotate_left
 ·
  simp only[Act.put,List.setIfInBounds_toArray,List.set_cons_zero,List.set_cons_succ,i64_w,i32_w]
  rfl
 refine one_ (i:=2) (N:=some 23) M38 rfl rfl (one_of HT_.out Z19) (by decide) (fun K hK=>?_)
 refine goes_ Tryz.func76 Z19 rfl #[.slice (some ad302) l0.length c0,.int .i64 x3_1] (by rfl) rfl rfl Z18 ?_
 with_reducible refine(spec_apSwap.calls _ _ l0 x3_1 t298 _ ?side1 ?side2 A8.1).mono ?_
 (case side1=>exact(Z15 HR0))
 (case side2=>exact HC0.1)
 rintro e w17 ⟨v299,rfl,ho0,hb⟩
 skip
 refine⟨_,rfl,?_⟩
 have n0_:=am (Kd.R_lower ho0 zs_)
 have n1_:=bw_ hb
 clear HB
 have HOoa:=n0_
 have HB:=n1_
 clear n0_ n1_
 (try clear hb)
 (try clear hb2)
 (try clear hk)
 (try clear hi)
 (try clear ho0)
 obtain⟨Ao18,co18,eo18⟩:=Kd.R_slice HOoa.1
 (first|subst eo18|(injection eo18 with f1_ f2_ f3_;have f4_:=f1_.symm;have f5_:=f3_.symm;clear f1_ f2_ f3_;subst f4_;subst f5_))
 have p301:0≤(x3_1:Int):=of_decide_eq_true Z5
 have q301:x3_1<(t298.length:Int):=of_decide_eq_true Z5
 obtain⟨ad301,e301,hx301_0⟩:=Kd.at_int (Kd.R_reads' HOoa.1).2.2 x3_1 p301 q301
 cases e301
 replace p301:=eq_true p301
 replace q301:=eq_true q301
 refine hK.out _ _ ((HB.1.cell (World.block_lt_of_cell? w _ hw302_0)).trans hw302_0) (fun hHeld=>?_)
 clear hK K
 refine norm_ (a':=?_) ?_ ?_
 rotate_left
 ·
  show Act.put _ (some 23) _=_
  simp only[Act.put,List.setIfInBounds_toArray,List.set_cons_zero,List.set_cons_succ,i64_w,i32_w]
  rfl
 refine pury_ 4 25 M41 HT_ ?_
 refine now_ (i:=5) (N:=some 26) (v:=?_) (a':=?_) M50 rfl rfl (one_of HT_.out Z19) (Or.inl ⟨(by rfl),?_⟩) ?_ ?_
 rotate_left
 ·
  rintro w' rfl
  go_simp
  with_reducible rfl
 rotate_left
 ·
  simp only[Act.put,List.setIfInBounds_toArray,List.set_cons_zero,List.set_cons_succ,i64_w,i32_w]
  rfl
 refine pury_ 10 31 M68 HT_ ?_
 refine done_ (done_of HT_.out Z19) ?_
 try go_wp2
 go_ret
 exact⟨Z6,ZB⟩
mutual
def spec_apSorted.l0:Nat→List Int→List Int→Int→Int→Option (List Int)
  |0,_,_,_,_=>none
  |k+1,x3,x8,x9,x10=>if x10<x9 then(if 0≤x10 then(if x10<(x8.length:Int)then(spec_apSorted.l1 k x3 (rd x8 x10) 0 x8 x9 x10)else(none))else(none))else(some x3)
def spec_apSorted.l1:Nat→List Int→Int→Int→List Int→Int→Int→Option (List Int)
  |0,_,_,_,_,_,_=>none
  |k+1,x3,x5,x6,x8,x9,x10=>if x6<(x3.length:Int)then(if 0≤x6 then(if(rd x3 x6)≤x5 then(spec_apSorted.l1 k x3 x5 (wrap64 (x6+1)) x8 x9 x10)else(if x6≤(x3.length:Int)then((spec_l1Own.f (x3.take (x6:Int).toNat)).bind fun t309=>(if t309.length<17592186044416 then((some (t309++[x5]:List Int)).bind fun y312=>((some (x3.drop (x6:Int).toNat:List Int)).bind fun y315=>(if y312.length+y315.length<17592186044416 then(spec_apSorted.l0 k (y312++y315) x8 x9 (wrap64 (x10+1)))else(none))))else(none)))else(none)))else(none))else(if 0≤x6 then(if x6≤(x3.length:Int)then((spec_l1Own.f (x3.take (x6:Int).toNat)).bind fun t326=>(if t326.length<17592186044416 then((some (t326++[x5]:List Int)).bind fun y329=>((some (x3.drop (x6:Int).toNat:List Int)).bind fun y332=>(if y329.length+y332.length<17592186044416 then(spec_apSorted.l0 k (y329++y332) x8 x9 (wrap64 (x10+1)))else(none))))else(none)))else(none))else(none))
end
def spec_apSorted.f (k:Nat) (l0:List Int):Option (List Int):=spec_apSorted.l0 k ([]:List Int) l0 (l0.length:Int) 0
theorem spec_apSorted.mono_l:∀k,(∀y0 y1 y2 y3,LeO (spec_apSorted.l0 k y0 y1 y2 y3) (spec_apSorted.l0 (k+1) y0 y1 y2 y3))∧(∀y0 y1 y2 y3 y4 y5,LeO (spec_apSorted.l1 k y0 y1 y2 y3 y4 y5) (spec_apSorted.l1 (k+1) y0 y1 y2 y3 y4 y5))
  |0=>⟨fun _ _ _ _ r h=>by simp[spec_apSorted.l0]at h,fun _ _ _ _ _ _ r h=>by simp[spec_apSorted.l1]at h⟩
  |k+1=>by
    obtain⟨ih0,ih1⟩:=spec_apSorted.mono_l k
    refine⟨?_,?_⟩
    · intro y0 y1 y2 y3
      unfold spec_apSorted.l0
      exact mo_
    · intro y0 y1 y2 y3 y4 y5
      unfold spec_apSorted.l1
      exact mo_
theorem spec_apSorted.mono:∀a0 k,LeO (spec_apSorted.f k a0) (spec_apSorted.f (k+1) a0):=by
  intro a0 k
  obtain⟨ih0,ih1⟩:=spec_apSorted.mono_l k
  unfold spec_apSorted.f
  exact mo_
set_option maxHeartbeats 8000000 in
set_option maxRecDepth 100000 in
theorem spec_apSorted.calls (k:Nat) (A0:Option Addr) (c0:Nat) (l0:List Int) (r:List Int) (w:World) (hr0:Kd.C (Kd.int .i64) w A0 l0.length l0) (hc0:l0.length≤c0) (h:spec_apSorted.f k l0=some r):
  Calls Tryz.prog 45 #[.slice A0 l0.length c0] w fun e w'=>∃v0_:Value,e= .returned (v0_)∧Kd.R (Kd.int .i64) 3 w' w.heap.size (fun _=>True) v0_ r∧Below w.heap.size w w':=by
 have HR0:=am hr0
 have HC0:=am hc0
 clear hr0 hc0
 have HB:=am (Below.refl w.heap.size w)
 have H:=h
 clear h
 unfold spec_apSorted.f at H
 have H':=am H
 clear H
 go_enter Tryz.func45,Tryz.ntmps45
 go_wp2
 go_loopg [3,10] k (fun kq v3 v10 w'=>∃(x3_1:List Int) (x10_1:Int),v10= .int .i64 x10_1∧Aside0 (spec_apSorted.l0 kq x3_1 l0 (l0.length:Int) x10_1=some r)∧Aside0 (kq≤k)∧Aside0 (Kd.R (Kd.int .i64) 3 w' w.heap.size (fun _=>True) v3 x3_1)∧Aside0 (Below w.heap.size w w'))
 case atStart=>exact⟨(([]:List Int)),(0),Z7,H',⟨Nat.le_refl _⟩,⟨Z23⟩,⟨ZB⟩⟩
 clear H'
 obtain⟨x3_1,x10_1,rfl,HA,HK1,HO_3,HB⟩:=hrel
 obtain _|k1:=gk
 ·
  exact absurd HA.out (by simp[spec_apSorted.l0])
 have H:=HA.out
 clear HA
 simp only[spec_apSorted.l0]at H
 by_cases c2:x10_1<(l0.length:Int)
 rotate_left
 ·
  rw[if_neg c2]at H
  have c2b0:=decide_eq_false c2
  clear c2
  obtain rfl:=Option.some.inj H
  go_wp2
  go_ret
  exact⟨_,Z6,(Z1 HO_3),ZB⟩
 rw[if_pos c2]at H
 have c2b0:=decide_eq_true c2
 clear c2
 obtain⟨c3,H⟩:=ip_ H
 have c3b0:=decide_eq_true c3
 clear c3
 obtain⟨c4,H⟩:=ip_ H
 have c4b0:=decide_eq_true c4
 clear c4
 have H':=am H
 clear H
 have p303:0≤(x10_1:Int):=of_decide_eq_true Z5
 have q303:x10_1<(l0.length:Int):=of_decide_eq_true Z5
 obtain⟨ad303,e303,hx303_0⟩:=Kd.at_int HR0.1 x10_1 p303 q303
 cases e303
 replace hx303_0:=(HB.1.cell (World.block_lt_of_cell? w _ hx303_0)).trans hx303_0
 replace p303:=eq_true p303
 replace q303:=eq_true q303
 go_wp2
 go_loopg [6] k1 (fun kq v6 w'=>∃(x6_2:Int),v6= .int .i64 x6_2∧Aside0 (spec_apSorted.l1 kq x3_1 (rd l0 x10_1) x6_2 l0 (l0.length:Int) x10_1=some r)∧Aside0 (kq≤k1)∧Aside0 (Kd.R (Kd.int .i64) 3 w' w.heap.size (fun _=>True) u3 x3_1)∧Aside0 (Below w.heap.size w w'))
 case atStart=>exact⟨(0),Z7,H',⟨Nat.le_refl _⟩,⟨(Z1 HO_3)⟩,⟨ZB⟩⟩
 clear H'
 obtain⟨x6_2,rfl,HA,HK2,HO_3,HB⟩:=hrel
 obtain _|k2:=gk
 ·
  exact absurd HA.out (by simp[spec_apSorted.l1])
 have H:=HA.out
 clear HA
 simp only[spec_apSorted.l1]at H
 by_cases c5:x6_2<(x3_1.length:Int)
 rotate_left
 ·
  rw[if_neg c5]at H
  have c5b0:=decide_eq_false c5
  clear c5
  obtain⟨c22,H⟩:=ip_ H
  have c22b0:=eq_true c22
  have c22b1:=decide_eq_true c22
  clear c22
  obtain⟨c23,H⟩:=ip_ H
  have c23b0:=eq_true c23
  have c23b1:=decide_eq_true c23
  clear c23
  obtain⟨y_a,hy_a⟩:∃y_:List Int,y_=(x3_1.take (x6_2:Int).toNat):=⟨_,rfl⟩
  replace H:((spec_l1Own.f y_a).bind fun t326=>(if t326.length<17592186044416 then((some (t326++[(rd l0 x10_1)]:List Int)).bind fun y_b=>((some (x3_1.drop (x6_2:Int).toNat:List Int)).bind fun y_c=>(if y_b.length+y_c.length<17592186044416 then(spec_apSorted.l0 k2 (y_b++y_c) l0 (l0.length:Int) (wrap64 (x10_1+1)))else(none))))else(none)))=some r:=Z8
  have Ny_a:=am hy_a
  clear hy_a
  obtain⟨t326,A24,H⟩:=bs_ H
  try dsimp only at H
  obtain⟨c25,H⟩:=ip_ H
  have LMc25:=am c25
  clear c25
  obtain⟨y_b,hy_b⟩:∃y_:List Int,y_=(t326++[(rd l0 x10_1)]):=⟨_,rfl⟩
  replace H:((some (x3_1.drop (x6_2:Int).toNat:List Int)).bind fun y_c=>(if y_b.length+y_c.length<17592186044416 then(spec_apSorted.l0 k2 (y_b++y_c) l0 (l0.length:Int) (wrap64 (x10_1+1)))else(none)))=some r:=Z14
  have Ny_b:=am hy_b
  clear hy_b
  have c26b0:=eq_true (of_decide_eq_true Z5:0≤x6_2)
  have c27b0:=eq_true (of_decide_eq_true Z5:x6_2≤(x3_1.length:Int))
  obtain⟨y_c,hy_c⟩:∃y_:List Int,y_=(x3_1.drop (x6_2:Int).toNat):=⟨_,rfl⟩
  replace H:(if y_b.length+y_c.length<17592186044416 then(spec_apSorted.l0 k2 (y_b++y_c) l0 (l0.length:Int) (wrap64 (x10_1+1)))else(none))=some r:=Z24
  have Ny_c:=am hy_c
  clear hy_c
  obtain⟨c28,H⟩:=ip_ H
  have LMc28:=am c28
  clear c28
  obtain⟨y_d,hy_d⟩:∃y_:List Int,y_=(y_b++y_c):=⟨_,rfl⟩
  replace H:(spec_apSorted.l0 k2 y_d l0 (l0.length:Int) (wrap64 (x10_1+1)))=some r:=Z36
  have Ny_d:=am hy_d
  clear hy_d
  have H':=am H
  clear H
  obtain⟨Ao29,co29,eo29⟩:=Kd.R_slice HO_3.1
  subst eo29
  have q30:(x6_2:Int)≤((x3_1.length:Int):Int):=of_decide_eq_true Z5
  obtain⟨i030,hi030,_,hsz30,_⟩:=info_parts info3
  have hroom30:x3_1.length≤co29:=(Kd.R_reads' HO_3.1).2.1
  have hC30:Kd.C (Kd.int .i64) _ Ao29 x3_1.length x3_1:=(Kd.R_reads' HO_3.1).2.2
  have hcut30:=cut_to (P:=Tryz.prog) 30 3 .i64 Tryz.underlying30 hi030 Ao29 x3_1.length co29 x6_2 (of_decide_eq_true Z5) q30 hroom30
  have hr30:=Kd.C_take (m:=(x6_2:Int).toNat) hC30 (by omega)
  have hy30:y_a.length=(x6_2:Int).toNat:=(by rw[Ny_a.1,List.length_take];omega)
  rw[←Ny_a.1]at hr30
  rw[←hy30]at hcut30
  have HR325:=am hr30
  have HC325:=am (show y_a.length≤co29 from by omega)
  clear hr30 hC30 hroom30 hi030 hsz30
  have KY30:=am hy30
  clear hy30
  have KL30:=am (show(x6_2:Int).toNat≤x3_1.length from by omega)
  replace q30:=eq_true q30
  go_wp2_with (first|((with_reducible refine gc_ 77 rfl ?_);refine gE_ (some 31) Tryz.func77 (spec_l1Own.calls _ _ y_a t326 _ ?side1 ?side2 A24.1) ?_;(case side1=>exact(Z58 HR325));(case side2=>exact HC325.1);rintro v327 w31 ⟨ho0,hb⟩;have HOoa:=am (Kd.R_lower (Kd.R_new' ho0 (Kd.R_lt (Z1 HO_3))) zs_);replace HO_3:=am (Kd.R_elder' (Z1 HO_3) (Kd.R_base ho0) hb);replace HR325:=am (Kd.C_below (Z9 HR325) hb);replace HB:=bw_ hb;clear hb;(try clear ho0))|((with_reducible refine gate_builtin (b:= .append) (xs:=#[.tmp 31,.tmp 33]) rfl ?_);at_builtin;refine Kd.R_append (Kd.int .i64) (w0:=w) w.heap.size rfl (.tmp 31) (.tmp 33) 30 3 (.int .i64 0) 8 rfl Tryz.underlying30 info3 rfl (by decide) (by omega) v327 t326 (rd l0 x10_1) [.int .i64 (rd l0 x10_1)] (fun k_=>some k_≠(.slice Ao29 x3_1.length co29:Value).ownBlock) (fun _=>False) rfl rfl ?aP (fun _ hk=>hk.elim) ?aF ?aO ?aB ?aS ?aL ?_;(case aP=>exact rfl);(case aB=>exact ZB);(case aF=>exact(fun k_ hk=>Kd.fresh' (Kd.R_lt (Z1 HO_3)) k_ hk));(case aO=>exact(Z30 HOoa));(case aS=>exact zs_);(case aL=>have:=LMc25.out;omega);intro v330 w32 ho hb hg hat;rw[←Ny_b.1]at ho;replace HB:=am hb;replace HR325:=am ((show Kd.C (Kd.int .i64) w32 Ao29 y_a.length y_a from by rw[Ny_a.1];exact Kd.C_take (m:=(x6_2:Int).toNat) ((Kd.R_reads' (Kd.R_after (ok:=(fun _=>True)) (Z1 HO_3) hg hat)).2.2) KL30.1));replace HO_3:=am (Kd.R_after (ok:=(fun _=>True)) (Z1 HO_3) hg hat);have HOob:=am ho;clear HOoa;clear ho hb hg hat;have q33:(x6_2:Int)≤((x3_1.length:Int):Int):=of_decide_eq_true Z5;obtain⟨i033,hi033,_,hsz33,_⟩:=info_parts info3;have hroom33:x3_1.length≤co29:=(Kd.R_reads' HO_3.1).2.1;have hC33:Kd.C (Kd.int .i64) _ Ao29 x3_1.length x3_1:=(Kd.R_reads' HO_3.1).2.2;have q033:(0:Int)≤(x6_2:Int):=of_decide_eq_true Z5;have hcut33:=cut_from (P:=Tryz.prog) 30 3 .i64 Tryz.underlying30 hi033 1 hsz33 Ao29 x3_1.length co29 x6_2 q033 q33;have hr33:=Kd.C_drop (m:=(x6_2:Int).toNat) (c:=co29) hC33 (by omega) hroom33;obtain⟨A33,hA33⟩:∃A1,A1=(if co29=(x6_2:Int).toNat then Ao29 else(Ao29:Option Addr).map (·.add ((x6_2:Int).toNat*1))):=⟨_,rfl⟩;obtain⟨c33,hc33⟩:∃c1,c1=co29-(x6_2:Int).toNat:=⟨_,rfl⟩;have hy33:y_c.length=x3_1.length-(x6_2:Int).toNat:=(by rw[Ny_c.1,List.length_drop]<;>omega);rw[show(x3_1).drop (x6_2:Int).toNat=y_c from Ny_c.1.symm]at hr33;replace hr33:Kd.C (Kd.int .i64) _ A33 y_c.length y_c:=(by rw[hA33];exact hr33);rw[←hy33,←hA33,←hc33]at hcut33;have HR335:=am hr33;have HC335:=am (show y_c.length≤c33 from by rw[hy33,hc33];exact Nat.sub_le_sub_right hroom33 _);clear hr33 hC33 hroom33 hi033 hsz33 hc33;have KY33:=am hy33;have KA33:=am hA33;clear hy33 hA33;have KL33:=am (show(x6_2:Int).toNat≤x3_1.length from by omega);replace q33:=eq_true q33)|((with_reducible refine gate_builtin (b:= .append) (xs:=#[.tmp 35,.tmp 38]) rfl ?_);at_builtin;refine Kd.R_append_rows (Kd.int .i64) (w0:=w) w.heap.size rfl (.tmp 35) (.tmp 38) 30 3 (.int .i64 0) 8 rfl Tryz.underlying30 info3 rfl (by decide) (by omega) v330 y_b y_c _ _ _ (fun k_=>some k_≠(.slice Ao29 x3_1.length co29:Value).ownBlock) (fun _=>False) rfl rfl ?aO ?aR (fun _ _ h=>h) (fun _ h=>h.elim) ?aF ?aB ?aS ?aL ?_;(case aR=>exact(Z58 HR335));(case aB=>exact ZB);(case aF=>exact(fun k_ hk=>Kd.fresh' (Kd.R_lt (Z1 HO_3)) k_ hk));(case aO=>exact(Z1 HOob));(case aS=>exact zs_);(case aL=>have:=LMc28.out;omega);intro v337 w34 ho hb hg hat;rw[←Ny_d.1]at ho;replace HB:=am hb;replace HR325:=am ((show Kd.C (Kd.int .i64) w34 Ao29 y_a.length y_a from by rw[Ny_a.1];exact Kd.C_take (m:=(x6_2:Int).toNat) ((Kd.R_reads' (Kd.R_after (ok:=(fun _=>True)) (Z1 HO_3) hg hat)).2.2) KL30.1));replace HR335:=am ((show Kd.C (Kd.int .i64) w34 A33 y_c.length y_c from by rw[Ny_c.1,KA33.out];exact Kd.C_drop (m:=(x6_2:Int).toNat) (c:=co29) ((Kd.R_reads' (Kd.R_after (ok:=(fun _=>True)) (Z1 HO_3) hg hat)).2.2) KL33.1 ((Kd.R_reads' (Kd.R_after (ok:=(fun _=>True)) (Z1 HO_3) hg hat)).2.1)));replace HO_3:=am (Kd.R_after (ok:=(fun _=>True)) (Z1 HO_3) hg hat);have HOoc:=am ho;clear HOob;clear ho hb hg hat))
  go_roundg k2
  case measure=>have:=HK1.1;have:=HK2.1;omega
  exact⟨(y_d),(wrap64 (x10_1+1)),Z7,H',⟨Z45⟩,⟨(Z20 HOoc)⟩,⟨ZB⟩⟩
 rw[if_pos c5]at H
 have c5b0:=decide_eq_true c5
 clear c5
 obtain⟨c6,H⟩:=ip_ H
 have c6b0:=decide_eq_true c6
 clear c6
 by_cases c7:(rd x3_1 x6_2)≤(rd l0 x10_1)
 ·
  rw[if_pos c7]at H
  have c7b0:=decide_eq_true c7
  clear c7
  have H':=am H
  clear H
  obtain⟨Ao8,co8,eo8⟩:=Kd.R_slice HO_3.1
  subst eo8
  have p304:0≤(x6_2:Int):=of_decide_eq_true Z5
  have q304:x6_2<(x3_1.length:Int):=of_decide_eq_true Z5
  obtain⟨ad304,e304,hx304_0⟩:=Kd.at_int (Kd.R_reads' HO_3.1).2.2 x6_2 p304 q304
  cases e304
  replace p304:=eq_true p304
  replace q304:=eq_true q304
  go_wp2
  go_roundg k2
  case measure=>have:=HK1.1;have:=HK2.1;omega
  exact⟨(wrap64 (x6_2+1)),Z7,H',⟨Z45⟩,⟨(Z1 HO_3)⟩,⟨ZB⟩⟩
 rw[if_neg c7]at H
 have c7b0:=decide_eq_false c7
 clear c7
 have c9b0:=eq_true (of_decide_eq_true Z5:0≤x6_2)
 obtain⟨c10,H⟩:=ip_ H
 have c10b0:=eq_true c10
 have c10b1:=decide_eq_true c10
 clear c10
 obtain⟨y_e,hy_e⟩:∃y_:List Int,y_=(x3_1.take (x6_2:Int).toNat):=⟨_,rfl⟩
 replace H:((spec_l1Own.f y_e).bind fun t309=>(if t309.length<17592186044416 then((some (t309++[(rd l0 x10_1)]:List Int)).bind fun y_f=>((some (x3_1.drop (x6_2:Int).toNat:List Int)).bind fun y_g=>(if y_f.length+y_g.length<17592186044416 then(spec_apSorted.l0 k2 (y_f++y_g) l0 (l0.length:Int) (wrap64 (x10_1+1)))else(none))))else(none)))=some r:=(by first|(rw[hy_e];with_reducible exact H)|(have H2_:=(Option.bind_some _ _).symm.trans H;rw[hy_e];with_reducible exact H2_)|(have H2_:=(Option.bind_some _ _).symm.trans H;with_reducible exact H2_)|with_reducible exact H|(rw[hy_e];exact H)|exact H)
 have Ny_e:=am hy_e
 clear hy_e
 obtain⟨t309,A11,H⟩:=bs_ H
 try dsimp only at H
 obtain⟨c12,H⟩:=ip_ H
 have LMc12:=am c12
 clear c12
 obtain⟨y_f,hy_f⟩:∃y_:List Int,y_=(t309++[(rd l0 x10_1)]):=⟨_,rfl⟩
 replace H:((some (x3_1.drop (x6_2:Int).toNat:List Int)).bind fun y_g=>(if y_f.length+y_g.length<17592186044416 then(spec_apSorted.l0 k2 (y_f++y_g) l0 (l0.length:Int) (wrap64 (x10_1+1)))else(none)))=some r:=(by first|(rw[hy_f];with_reducible exact H)|(have H2_:=(Option.bind_some _ _).symm.trans H;rw[hy_f];with_reducible exact H2_)|(have H2_:=(Option.bind_some _ _).symm.trans H;with_reducible exact H2_)|with_reducible exact H|(rw[hy_f];exact H)|exact H)
 have Ny_f:=am hy_f
 clear hy_f
 have c13b0:=eq_true (of_decide_eq_true Z5:0≤x6_2)
 have c14b0:=eq_true (of_decide_eq_true Z5:x6_2≤(x3_1.length:Int))
 obtain⟨y_g,hy_g⟩:∃y_:List Int,y_=(x3_1.drop (x6_2:Int).toNat):=⟨_,rfl⟩
 replace H:(if y_f.length+y_g.length<17592186044416 then(spec_apSorted.l0 k2 (y_f++y_g) l0 (l0.length:Int) (wrap64 (x10_1+1)))else(none))=some r:=(by first|(rw[hy_g];with_reducible exact H)|(have H2_:=(Option.bind_some _ _).symm.trans H;rw[hy_g];with_reducible exact H2_)|(have H2_:=(Option.bind_some _ _).symm.trans H;with_reducible exact H2_)|with_reducible exact H|(rw[hy_g];exact H)|exact H)
 have Ny_g:=am hy_g
 clear hy_g
 obtain⟨c15,H⟩:=ip_ H
 have LMc15:=am c15
 clear c15
 obtain⟨y_h,hy_h⟩:∃y_:List Int,y_=(y_f++y_g):=⟨_,rfl⟩
 replace H:(spec_apSorted.l0 k2 y_h l0 (l0.length:Int) (wrap64 (x10_1+1)))=some r:=(by first|(rw[hy_h];with_reducible exact H)|(have H2_:=(Option.bind_some _ _).symm.trans H;rw[hy_h];with_reducible exact H2_)|(have H2_:=(Option.bind_some _ _).symm.trans H;with_reducible exact H2_)|with_reducible exact H|(rw[hy_h];exact H)|exact H)
 have Ny_h:=am hy_h
 clear hy_h
 have H':=am H
 clear H
 obtain⟨Ao16,co16,eo16⟩:=Kd.R_slice HO_3.1
 subst eo16
 have p304:0≤(x6_2:Int):=of_decide_eq_true Z5
 have q304:x6_2<(x3_1.length:Int):=of_decide_eq_true Z5
 obtain⟨ad304,e304,hx304_0⟩:=Kd.at_int (Kd.R_reads' HO_3.1).2.2 x6_2 p304 q304
 cases e304
 replace p304:=eq_true p304
 replace q304:=eq_true q304
 have q17:(x6_2:Int)≤((x3_1.length:Int):Int):=of_decide_eq_true Z5
 obtain⟨i017,hi017,_,hsz17,_⟩:=info_parts info3
 have hroom17:x3_1.length≤co16:=(Kd.R_reads' HO_3.1).2.1
 have hC17:Kd.C (Kd.int .i64) _ (some ad304) x3_1.length x3_1:=(Kd.R_reads' HO_3.1).2.2
 have hcut17:=cut_to (P:=Tryz.prog) 30 3 .i64 Tryz.underlying30 hi017 (some ad304) x3_1.length co16 x6_2 (of_decide_eq_true Z5) q17 hroom17
 have hr17:=Kd.C_take (m:=(x6_2:Int).toNat) hC17 (by omega)
 have hy17:y_e.length=(x6_2:Int).toNat:=(by rw[Ny_e.1,List.length_take];omega)
 rw[←Ny_e.1]at hr17
 rw[←hy17]at hcut17
 have HR308:=am hr17
 have HC308:=am (show y_e.length≤co16 from by omega)
 clear hr17 hC17 hroom17 hi017 hsz17
 have KY17:=am hy17
 clear hy17
 have KL17:=am (show(x6_2:Int).toNat≤x3_1.length from by omega)
 replace q17:=eq_true q17
 go_wp2_with (first|((with_reducible refine gc_ 77 rfl ?_);refine gE_ (some 31) Tryz.func77 (spec_l1Own.calls _ _ y_e t309 _ ?side1 ?side2 A11.1) ?_;(case side1=>exact(Z58 HR308));(case side2=>exact HC308.1);rintro v310 w18 ⟨ho0,hb⟩;have HOod:=am (Kd.R_lower (Kd.R_new' ho0 (Kd.R_lt (Z1 HO_3))) zs_);replace HO_3:=am (Kd.R_elder' (Z1 HO_3) (Kd.R_base ho0) hb);replace HR308:=am (Kd.C_below (Z9 HR308) hb);replace HB:=bw_ hb;clear hb;(try clear ho0))|((with_reducible refine gate_builtin (b:= .append) (xs:=#[.tmp 31,.tmp 33]) rfl ?_);at_builtin;refine Kd.R_append (Kd.int .i64) (w0:=w) w.heap.size rfl (.tmp 31) (.tmp 33) 30 3 (.int .i64 0) 8 rfl Tryz.underlying30 info3 rfl (by decide) (by omega) v310 t309 (rd l0 x10_1) [.int .i64 (rd l0 x10_1)] (fun k_=>some k_≠(.slice (some ad304) x3_1.length co16:Value).ownBlock) (fun _=>False) rfl rfl ?aP (fun _ hk=>hk.elim) ?aF ?aO ?aB ?aS ?aL ?_;(case aP=>exact rfl);(case aB=>exact ZB);(case aF=>exact(fun k_ hk=>Kd.fresh' (Kd.R_lt (Z1 HO_3)) k_ hk));(case aO=>exact(Z30 HOod));(case aS=>exact zs_);(case aL=>have:=LMc12.out;omega);intro v313 w19 ho hb hg hat;rw[←Ny_f.1]at ho;replace HB:=am hb;replace HR308:=am ((show Kd.C (Kd.int .i64) w19 (some ad304) y_e.length y_e from by rw[Ny_e.1];exact Kd.C_take (m:=(x6_2:Int).toNat) ((Kd.R_reads' (Kd.R_after (ok:=(fun _=>True)) (Z1 HO_3) hg hat)).2.2) KL17.1));replace HO_3:=am (Kd.R_after (ok:=(fun _=>True)) (Z1 HO_3) hg hat);have HOoe:=am ho;clear HOod;clear ho hb hg hat;have q20:(x6_2:Int)≤((x3_1.length:Int):Int):=of_decide_eq_true Z5;obtain⟨i020,hi020,_,hsz20,_⟩:=info_parts info3;have hroom20:x3_1.length≤co16:=(Kd.R_reads' HO_3.1).2.1;have hC20:Kd.C (Kd.int .i64) _ (some ad304) x3_1.length x3_1:=(Kd.R_reads' HO_3.1).2.2;have q020:(0:Int)≤(x6_2:Int):=of_decide_eq_true Z5;have hcut20:=cut_from (P:=Tryz.prog) 30 3 .i64 Tryz.underlying30 hi020 1 hsz20 (some ad304) x3_1.length co16 x6_2 q020 q20;have hr20:=Kd.C_drop (m:=(x6_2:Int).toNat) (c:=co16) hC20 (by omega) hroom20;obtain⟨A20,hA20⟩:∃A1,A1=(if co16=(x6_2:Int).toNat then(some ad304)else((some ad304):Option Addr).map (·.add ((x6_2:Int).toNat*1))):=⟨_,rfl⟩;obtain⟨c20,hc20⟩:∃c1,c1=co16-(x6_2:Int).toNat:=⟨_,rfl⟩;have hy20:y_g.length=x3_1.length-(x6_2:Int).toNat:=(by rw[Ny_g.1,List.length_drop]<;>omega);rw[show(x3_1).drop (x6_2:Int).toNat=y_g from Ny_g.1.symm]at hr20;replace hr20:Kd.C (Kd.int .i64) _ A20 y_g.length y_g:=(by rw[hA20];exact hr20);rw[←hy20,←hA20,←hc20]at hcut20;have HR318:=am hr20;have HC318:=am (show y_g.length≤c20 from by rw[hy20,hc20];exact Nat.sub_le_sub_right hroom20 _);clear hr20 hC20 hroom20 hi020 hsz20 hc20;have KY20:=am hy20;have KA20:=am hA20;clear hy20 hA20;have KL20:=am (show(x6_2:Int).toNat≤x3_1.length from by omega);replace q20:=eq_true q20)|((with_reducible refine gate_builtin (b:= .append) (xs:=#[.tmp 35,.tmp 38]) rfl ?_);at_builtin;refine Kd.R_append_rows (Kd.int .i64) (w0:=w) w.heap.size rfl (.tmp 35) (.tmp 38) 30 3 (.int .i64 0) 8 rfl Tryz.underlying30 info3 rfl (by decide) (by omega) v313 y_f y_g _ _ _ (fun k_=>some k_≠(.slice (some ad304) x3_1.length co16:Value).ownBlock) (fun _=>False) rfl rfl ?aO ?aR (fun _ _ h=>h) (fun _ h=>h.elim) ?aF ?aB ?aS ?aL ?_;(case aR=>exact(Z58 HR318));(case aB=>exact ZB);(case aF=>exact(fun k_ hk=>Kd.fresh' (Kd.R_lt (Z1 HO_3)) k_ hk));(case aO=>exact(Z1 HOoe));(case aS=>exact zs_);(case aL=>have:=LMc15.out;omega);intro v320 w21 ho hb hg hat;rw[←Ny_h.1]at ho;replace HB:=am hb;replace HR308:=am ((show Kd.C (Kd.int .i64) w21 (some ad304) y_e.length y_e from by rw[Ny_e.1];exact Kd.C_take (m:=(x6_2:Int).toNat) ((Kd.R_reads' (Kd.R_after (ok:=(fun _=>True)) (Z1 HO_3) hg hat)).2.2) KL17.1));replace HR318:=am ((show Kd.C (Kd.int .i64) w21 A20 y_g.length y_g from by rw[Ny_g.1,KA20.out];exact Kd.C_drop (m:=(x6_2:Int).toNat) (c:=co16) ((Kd.R_reads' (Kd.R_after (ok:=(fun _=>True)) (Z1 HO_3) hg hat)).2.2) KL20.1 ((Kd.R_reads' (Kd.R_after (ok:=(fun _=>True)) (Z1 HO_3) hg hat)).2.1)));replace HO_3:=am (Kd.R_after (ok:=(fun _=>True)) (Z1 HO_3) hg hat);have HOof:=am ho;clear HOoe;clear ho hb hg hat))
 go_roundg k2
 case measure=>have:=HK1.1;have:=HK2.1;omega
 exact⟨(y_h),(wrap64 (x10_1+1)),Z7,H',⟨Z45⟩,⟨(Z20 HOof)⟩,⟨ZB⟩⟩
mutual
def spec_CirclesUpTo.j0:Nat→List (S37)→Int→Bool→Option ((List (S37))× Bool)
  |0,_,_,_=>none
  |k+1,x0,x1,x21=>if x21=true then(some (([]:List (S37)),false))else((spec_ciCurvatures.f k x0).bind fun t341=>((spec_apGood.f k t341).bind fun t344=>(if t344=true then((spec_apDown.f k t341).bind fun t345=>(if t345≥0 then(spec_CirclesUpTo.j1 k x0 x1 true)else((spec_apSorted.f k t341).bind fun t346=>(if 0<(t346.length:Int)then(spec_CirclesUpTo.j1 k x0 x1 (decide ((rd t346 0)≥0)))else(none)))))else(spec_CirclesUpTo.j1 k x0 x1 true))))
def spec_CirclesUpTo.j1:Nat→List (S37)→Int→Bool→Option ((List (S37))× Bool)
  |0,_,_,_=>none
  |k+1,x0,x1,x38=>if x38=true then(some (([]:List (S37)),false))else(spec_CirclesUpTo.l0 k x0 x1 ([]:List (S37)) x0 (x0.length:Int) 0)
def spec_CirclesUpTo.l0:Nat→List (S37)→Int→List (S37)→List (S37)→Int→Int→Option ((List (S37))× Bool)
  |0,_,_,_,_,_,_=>none
  |k+1,x0,x1,x7,x39,x40,x41=>if x41<x40 then(if 0≤x41 then(if x41<(x39.length:Int)then(if((rd_T37 x39 x41).f1)≤x1 then(if x7.length<4398046511104 then(spec_CirclesUpTo.l0 k x0 x1 (x7++[(⟨(rd_T37 x39 x41).f0,(rd_T37 x39 x41).f1,(rd_T37 x39 x41).f2,(rd_T37 x39 x41).f3⟩:S37)]) x39 x40 (wrap64 (x41+1)))else(none))else(spec_CirclesUpTo.l0 k x0 x1 x7 x39 x40 (wrap64 (x41+1))))else(none))else(none))else(spec_CirclesUpTo.l1 k x1 x7 (([(⟨x0,(-1)⟩:S74)]:List (S74))) 0)
def spec_CirclesUpTo.l1:Nat→Int→List (S37)→List (S74)→Int→Option ((List (S37))× Bool)
  |0,_,_,_,_=>none
  |k+1,x1,x7,x10,x11=>if x11<(x10.length:Int)then(spec_CirclesUpTo.l2 k x1 x7 x10 x11 0)else(some (x7,true))
def spec_CirclesUpTo.l2:Nat→Int→List (S37)→List (S74)→Int→Int→Option ((List (S37))× Bool)
  |0,_,_,_,_,_=>none
  |k+1,x1,x7,x10,x11,x12=>if x12<4 then(if 0≤x11 then(if x11<(x10.length:Int)then(if x12=((rd_T74 x10 x11).f1)then(spec_CirclesUpTo.l2 k x1 x7 x10 x11 (wrap64 (x12+1)))else((spec_ciSwap.f k ((rd_T74 x10 x11).f0) x12).bind fun t360=>(if 0≤x12 then(if x12<(t360.length:Int)then(if((rd_T37 t360 x12).f1)>x1 then(spec_CirclesUpTo.l2 k x1 x7 x10 x11 (wrap64 (x12+1)))else((spec_ciGood.f k ((rd_T37 t360 x12).f0) ((rd_T37 t360 x12).f1) ((rd_T37 t360 x12).f2) ((rd_T37 t360 x12).f3)).bind fun t365=>(if t365=true then(if(x7.length:Int)=300 then(some (([]:List (S37)),false))else(if x7.length<4398046511104 then(if x10.length<4398046511104 then(spec_CirclesUpTo.l2 k x1 (x7++[(⟨(rd_T37 t360 x12).f0,(rd_T37 t360 x12).f1,(rd_T37 t360 x12).f2,(rd_T37 t360 x12).f3⟩:S37)]) (x10++[(⟨t360,x12⟩:S74)]) x11 (wrap64 (x12+1)))else(none))else(none)))else(some (([]:List (S37)),false)))))else(none))else(none))))else(none))else(none))else(spec_CirclesUpTo.l1 k x1 x7 x10 (wrap64 (x11+1)))
end
def spec_CirclesUpTo.f (k:Nat) (l0:List (S37)) (a1:Int):Option ((List (S37))× Bool):=(spec_ciConfig.f k l0).bind fun t339=>(if t339=true then((spec_l1In.f a1 1 60).bind fun t340=>(spec_CirclesUpTo.j0 k l0 a1 (!t340)))else(spec_CirclesUpTo.j0 k l0 a1 true))
theorem spec_CirclesUpTo.mono_l:∀k,(∀y0 y1 y2,LeO (spec_CirclesUpTo.j0 k y0 y1 y2) (spec_CirclesUpTo.j0 (k+1) y0 y1 y2))∧(∀y0 y1 y2,LeO (spec_CirclesUpTo.j1 k y0 y1 y2) (spec_CirclesUpTo.j1 (k+1) y0 y1 y2))∧(∀y0 y1 y2 y3 y4 y5,LeO (spec_CirclesUpTo.l0 k y0 y1 y2 y3 y4 y5) (spec_CirclesUpTo.l0 (k+1) y0 y1 y2 y3 y4 y5))∧(∀y0 y1 y2 y3,LeO (spec_CirclesUpTo.l1 k y0 y1 y2 y3) (spec_CirclesUpTo.l1 (k+1) y0 y1 y2 y3))∧(∀y0 y1 y2 y3 y4,LeO (spec_CirclesUpTo.l2 k y0 y1 y2 y3 y4) (spec_CirclesUpTo.l2 (k+1) y0 y1 y2 y3 y4))
  |0=>⟨fun _ _ _ r h=>by simp[spec_CirclesUpTo.j0]at h,fun _ _ _ r h=>by simp[spec_CirclesUpTo.j1]at h,fun _ _ _ _ _ _ r h=>by simp[spec_CirclesUpTo.l0]at h,fun _ _ _ _ r h=>by simp[spec_CirclesUpTo.l1]at h,fun _ _ _ _ _ r h=>by simp[spec_CirclesUpTo.l2]at h⟩
  |k+1=>by
    obtain⟨ih0,ih1,ih2,ih3,ih4⟩:=spec_CirclesUpTo.mono_l k
    refine⟨?_,?_,?_,?_,?_⟩
    · intro y0 y1 y2
      unfold spec_CirclesUpTo.j0
      exact mo_
    · intro y0 y1 y2
      unfold spec_CirclesUpTo.j1
      exact mo_
    · intro y0 y1 y2 y3 y4 y5
      unfold spec_CirclesUpTo.l0
      exact mo_
    · intro y0 y1 y2 y3
      unfold spec_CirclesUpTo.l1
      exact mo_
    · intro y0 y1 y2 y3 y4
      unfold spec_CirclesUpTo.l2
      exact mo_
theorem spec_CirclesUpTo.mono:∀a0 a1 k,LeO (spec_CirclesUpTo.f k a0 a1) (spec_CirclesUpTo.f (k+1) a0 a1):=by
  intro a0 a1 k
  obtain⟨ih0,ih1,ih2,ih3,ih4⟩:=spec_CirclesUpTo.mono_l k
  unfold spec_CirclesUpTo.f
  exact mo_
set_option maxHeartbeats 8000000 in
set_option maxRecDepth 100000 in
theorem spec_CirclesUpTo.calls (k:Nat) (P0_:Nat→Prop) (A0:Option Addr) (c0:Nat) (l0:List (S37)) (a1:Int) (r1:List (S37)) (r2:Bool) (w:World) (hs0:Kd.V k37 37 w w.heap.size (fun k_=>P0_ k_) (.slice A0 l0.length c0) l0) (h:spec_CirclesUpTo.f k l0 a1=some (r1,r2)):
  Calls Tryz.prog 7 #[.slice A0 l0.length c0,.int .i64 a1] w fun e w'=>∃v0_:Value,e= .returned (.tuple #[v0_,.bool r2])∧Kd.R k37 37 w' w.heap.size (fun k_=>(w.heap.size≤k_)) v0_ r1∧Below w.heap.size w w':=by
 have hu37:=Tryz.underlying37
 have hu74:=Tryz.underlying74
 have HO0:=am (show Kd.V k37 37 w w.heap.size (fun k_=>(P0_ k_∨w.heap.size≤k_)) (.slice A0 l0.length c0) l0 from Kd.V_mono hs0 (fun k_ hk=> .inl hk))
 have HB:=am (Below.refl w.heap.size w)
 have H:=h
 clear h
 unfold spec_CirclesUpTo.f at H
 have HC3:=am H
 clear H
 go_enter Tryz.func7,Tryz.ntmps7
 go_upto_region 1 with(fail)
 go_cut[21] (fun v21 wc=>∃(kq:Nat) (x21_2:Bool),v21= .bool x21_2∧Aside0 (spec_CirclesUpTo.j0 kq l0 a1 x21_2=some (r1,r2))∧Aside0 (kq≤k)∧Aside0 (Kd.V k37 37 wc w.heap.size (fun k_=>(P0_ k_∨w.heap.size≤k_)) (.slice A0 l0.length c0) l0)∧Aside0 (Below w.heap.size w wc))
 case first=>
  have H:=HC3.1
  clear HC3
  obtain⟨t339,A4,H⟩:=bs_ H
  try dsimp only at H
  by_cases c5:t339=true
  ·
   subst c5
   rw[if_pos rfl]at H
   obtain⟨t340,A6,H⟩:=bs_ H
   try dsimp only at H
   have H':=am H
   clear H
   go_wp2_with (first|((with_reducible refine gc_ 40 rfl ?_);refine gM_ (some 15) Tryz.func40 (spec_ciConfig.calls k _ _ l0 true _ ?side1 ?side2 A4.1) ?_;(case side1=>exact(Z26 HO0));(case side2=>exact(Kd.V_reads' HO0.1).2.1);intro w7 hb;replace HO0:=am (Kd.V_below (Z17 HO0) hb);replace HB:=bw_ hb;clear hb)|(go_at_call 41;(with_reducible refine(spec_l1In.calls a1 1 60 t340 _ A6.1).mono ?_);rintro e w' ⟨rfl,⟨nd,rfl⟩⟩))
   go_meet
   exact⟨_,(!t340),Z7,H',⟨Z35⟩,⟨(Z17 HO0)⟩,⟨ZB⟩⟩
  replace c5:=Bool.eq_false_iff.mpr c5
  subst c5
  rw[if_neg (show¬(false=true) by decide)]at H
  have H':=am H
  clear H
  go_wp2_with (first|((with_reducible refine gc_ 40 rfl ?_);refine gM_ (some 15) Tryz.func40 (spec_ciConfig.calls k _ _ l0 false _ ?side1 ?side2 A4.1) ?_;(case side1=>exact(Z26 HO0));(case side2=>exact(Kd.V_reads' HO0.1).2.1);intro w8 hb;replace HO0:=am (Kd.V_below (Z17 HO0) hb);replace HB:=bw_ hb;clear hb))
  go_meet
  exact⟨_,(true),Z7,H',⟨Z35⟩,⟨(Z17 HO0)⟩,⟨ZB⟩⟩
 clear HC3
 obtain⟨kq,x21_2,rfl,HA,HJ2,HO_0,HB⟩:=hcut
 obtain _|kj2:=kq
 ·
  exact absurd HA.out (by simp[spec_CirclesUpTo.j0])
 have H:=HA.out
 clear HA
 simp only[spec_CirclesUpTo.j0]at H
 by_cases c9:x21_2=true
 ·
  subst c9
  rw[if_pos rfl]at H
  simp only[Option.some.injEq,Prod.mk.injEq]at H
  obtain⟨rfl,rfl⟩:=H
  go_wp2
  go_ret2
  exact⟨_,Z6,Z23,ZB⟩
 replace c9:=Bool.eq_false_iff.mpr c9
 subst c9
 rw[if_neg (show¬(false=true) by decide)]at H
 obtain⟨t341,A10,H⟩:=bs_ H
 try dsimp only at H
 have HC11:=am H
 clear H
 go_upto_region 4 with(first|((with_reducible refine gc_ 42 rfl ?_);refine gE_ (some 23) Tryz.func42 (spec_ciCurvatures.calls kj2 _ _ l0 t341 _ ?side1 ?side2 A10.1) ?_;(case side1=>exact(Z26 HO_0));(case side2=>exact(Kd.V_reads' HO_0.1).2.1);rintro v342 w12 ⟨ho0,hb⟩;replace HO_0:=am (Kd.V_elder' (Z17 HO_0) (Kd.R_base ho0) hb);have HOob:=am (Kd.R_lower (Kd.R_newM (M:=fun k_=>(w.heap.size≤k_)) ho0 zs_ (fun k_ h_=>h_)) zs_);replace HB:=bw_ hb;clear hb;(try clear ho0)))
 (try simp only[Act.put,List.setIfInBounds_toArray,List.set_cons_zero,List.set_cons_succ])
 go_cut[38] (fun v38 wc=>∃(kq:Nat) (x38_10:Bool),v38= .bool x38_10∧Aside0 (spec_CirclesUpTo.j1 kq l0 a1 x38_10=some (r1,r2))∧Aside0 (kq≤kj2)∧Aside0 (Kd.V k37 37 wc w.heap.size (fun k_=>(P0_ k_∨w.heap.size≤k_)) (.slice A0 l0.length c0) l0)∧Aside0 (Below w.heap.size w wc))
 case first=>
  have H:=HC11.1
  clear HC11
  obtain⟨t344,A13,H⟩:=bs_ H
  try dsimp only at H
  by_cases c14:t344=true
  rotate_left
  ·
   replace c14:=Bool.eq_false_iff.mpr c14
   subst c14
   rw[if_neg (show¬(false=true) by decide)]at H
   have H':=am H
   clear H
   obtain⟨Ao25,co25,eo25⟩:=Kd.R_slice HOob.1
   subst eo25
   go_wp2_with (first|((with_reducible refine gc_ 43 rfl ?_);refine goesN_ 43 (some 25) Tryz.func43 #[.slice Ao25 t341.length co25] ?_;(with_reducible refine(spec_apGood.calls kj2 _ _ t341 false _ ?side1 ?side2 A13.1).mono ?_);(case side1=>exact(Z10 HOob));(case side2=>exact(Kd.R_reads' HOob.1).2.1);rintro e w' ⟨rfl,⟨nd,rfl⟩⟩;refine⟨_,rfl,?_⟩))
   go_meet
   exact⟨_,(true),Z7,H',⟨(Z44 HJ2)⟩,⟨(by(with_reducible repeat(first|apply Kd.V_alloc|apply Kd.V_drewN|apply Kd.V_drew));exact Kd.V_mono HO_0.1 (fun _ hk=>hk.1))⟩,⟨ZB⟩⟩
  subst c14
  rw[if_pos rfl]at H
  obtain⟨t345,A15,H⟩:=bs_ H
  try dsimp only at H
  by_cases c16:t345≥0
  ·
   rw[if_pos c16]at H
   have c16b0:decide (0≤t345)=true:=decide_eq_true c16
   clear c16
   (first|rw[c16b0]|(simp only[i64_w,i32_w];rw[c16b0])|skip)
   have H':=am H
   clear H
   obtain⟨Ao17,co17,eo17⟩:=Kd.R_slice HOob.1
   subst eo17
   go_wp2_with (first|((with_reducible refine gc_ 43 rfl ?_);refine goesN_ 43 (some 25) Tryz.func43 #[.slice Ao17 t341.length co17] ?_;(with_reducible refine(spec_apGood.calls kj2 _ _ t341 true _ ?side1 ?side2 A13.1).mono ?_);(case side1=>exact(Z10 HOob));(case side2=>exact(Kd.R_reads' HOob.1).2.1);rintro e w' ⟨rfl,⟨nd,rfl⟩⟩;refine⟨_,rfl,?_⟩)|(go_at_call 44;(with_reducible refine(spec_apDown.calls kj2 _ _ t341 t345 _ ?side1 ?side2 A15.1).mono ?_);(case side1=>exact(Z10 HOob));(case side2=>exact(Kd.R_reads' HOob.1).2.1);rintro e w18 ⟨rfl,hb⟩;replace HO_0:=am (Kd.V_below (Z17 HO_0) hb);replace HOob:=am (Kd.R_below (Z1 HOob) hb);replace HB:=bw_ hb;clear hb))
   go_meet
   exact⟨_,(true),Z7,H',⟨(Z44 HJ2)⟩,⟨(by(with_reducible repeat(first|apply Kd.V_alloc|apply Kd.V_drewN|apply Kd.V_drew));exact Kd.V_mono HO_0.1 (fun _ hk=>hk.1))⟩,⟨ZB⟩⟩
  rw[if_neg c16]at H
  have c16b0:decide (0≤t345)=false:=decide_eq_false c16
  clear c16
  (first|rw[c16b0]|(simp only[i64_w,i32_w];rw[c16b0])|skip)
  obtain⟨t346,A19,H⟩:=bs_ H
  try dsimp only at H
  obtain⟨c20,H⟩:=ip_ H
  have c20b0:=decide_eq_true c20
  have c20b1:decide (0<t346.length)=true:=decide_eq_true (by omega)
  clear c20
  have H':=am H
  clear H
  obtain⟨Ao21,co21,eo21⟩:=Kd.R_slice HOob.1
  subst eo21
  go_wp2_with (first|((with_reducible refine gc_ 43 rfl ?_);refine goesN_ 43 (some 25) Tryz.func43 #[.slice Ao21 t341.length co21] ?_;(with_reducible refine(spec_apGood.calls kj2 _ _ t341 true _ ?side1 ?side2 A13.1).mono ?_);(case side1=>exact(Z10 HOob));(case side2=>exact(Kd.R_reads' HOob.1).2.1);rintro e w' ⟨rfl,⟨nd,rfl⟩⟩;refine⟨_,rfl,?_⟩)|(go_at_call 44;(with_reducible refine(spec_apDown.calls kj2 _ _ t341 t345 _ ?side1 ?side2 A15.1).mono ?_);(case side1=>exact(Z10 HOob));(case side2=>exact(Kd.R_reads' HOob.1).2.1);rintro e w22 ⟨rfl,hb⟩;replace HO_0:=am (Kd.V_below (Z17 HO_0) hb);replace HOob:=am (Kd.R_below (Z1 HOob) hb);replace HB:=bw_ hb;clear hb)|(go_at_call 45;(with_reducible refine(spec_apSorted.calls kj2 _ _ t341 t346 _ ?side1 ?side2 A19.1).mono ?_);(case side1=>exact(Z10 HOob));(case side2=>exact(Kd.R_reads' HOob.1).2.1);rintro e w23 ⟨v347,rfl,ho0,hb⟩;replace HO_0:=am (Kd.V_elder' (Z17 HO_0) (Kd.R_base ho0) hb);have HOoc:=am (Kd.R_lower (Kd.R_new' (Kd.R_newM (M:=fun k_=>(w.heap.size≤k_)) ho0 zs_ (fun k_ h_=>h_)) (Kd.R_lt (Z1 HOob))) zs_);replace HOob:=am (Kd.R_elder' (Z1 HOob) (Kd.R_base ho0) hb);replace HB:=bw_ hb;clear hb;(try clear ho0);obtain⟨Ao24,co24,eo24⟩:=Kd.R_slice HOoc.1;subst eo24;have p349:0≤(0:Int):=(by omega);have q349:0<(t346.length:Int):=of_decide_eq_true Z5;obtain⟨ad349,e349,hx349_0⟩:=Kd.at_int (Kd.R_reads' HOoc.1).2.2 0 p349 q349;cases e349;have qi349:(0<t346.length)=True:=eq_true (by omega);(try rw[show((0:Int)).toNat=0 from rfl]at hx349_0);(try rw[Addr.add_zero']at hx349_0);replace p349:=eq_true p349;replace q349:=eq_true q349))
  go_meet
  exact⟨_,(decide ((rd t346 0)≥0)),Z7,H',⟨(Z44 HJ2)⟩,⟨(by(with_reducible repeat(first|apply Kd.V_alloc|apply Kd.V_drewN|apply Kd.V_drew));exact Kd.V_mono HO_0.1 (fun _ hk=>hk.1.1))⟩,⟨ZB⟩⟩
 clear HC11
 obtain⟨kq,x38_10,rfl,HA,HJ10,HO_0,HB⟩:=hcut
 obtain _|kj10:=kq
 ·
  exact absurd HA.out (by simp[spec_CirclesUpTo.j1])
 have H:=HA.out
 clear HA
 simp only[spec_CirclesUpTo.j1]at H
 by_cases c26:x38_10=true
 ·
  subst c26
  rw[if_pos rfl]at H
  simp only[Option.some.injEq,Prod.mk.injEq]at H
  obtain⟨rfl,rfl⟩:=H
  go_wp2
  go_ret2
  exact⟨_,Z6,Z23,ZB⟩
 replace c26:=Bool.eq_false_iff.mpr c26
 subst c26
 rw[if_neg (show¬(false=true) by decide)]at H
 have H':=am H
 clear H
 go_wp2
 go_loopg [7,41] kj10 (fun kq v7 v41 w'=>∃(x7_3:List (S37)) (x41_3:Int),v41= .int .i64 x41_3∧Aside0 (spec_CirclesUpTo.l0 kq l0 a1 x7_3 l0 (l0.length:Int) x41_3=some (r1,r2))∧Aside0 (kq≤kj10)∧Aside0 (Kd.V k37 37 w' w.heap.size (fun k_=>(P0_ k_∨w.heap.size≤k_)∧some k_≠(v7:Value).ownBlock) (.slice A0 l0.length c0) l0)∧Aside0 (Kd.R k37 37 w' w.heap.size (fun k_=>(w.heap.size≤k_)) v7 x7_3)∧Aside0 (Kd.V k37 37 w' w.heap.size (fun k_=>(P0_ k_∨w.heap.size≤k_)∧some k_≠(v7:Value).ownBlock) (.slice A0 l0.length c0) l0)∧Aside0 (Below w.heap.size w w'))
 case atStart=>exact⟨(([]:List (S37))),(0),Z7,H',⟨Nat.le_refl _⟩,⟨(by(with_reducible repeat(first|apply Kd.V_alloc|apply Kd.V_drewN|apply Kd.V_drew));exact Kd.V_mono HO_0.1 (fun _ hk=>⟨hk,(by simp[Value.ownBlock])⟩))⟩,⟨Z23⟩,⟨(by(with_reducible repeat(first|apply Kd.V_alloc|apply Kd.V_drewN|apply Kd.V_drew));exact Kd.V_mono HO_0.1 (fun _ hk=>⟨hk,(by simp[Value.ownBlock])⟩))⟩,⟨ZB⟩⟩
 clear H'
 obtain⟨x7_3,x41_3,rfl,HA,HK3,HO_0,HO_7,HO_39,HB⟩:=hrel
 obtain _|k3:=gk
 ·
  exact absurd HA.out (by simp[spec_CirclesUpTo.l0])
 have H:=HA.out
 clear HA
 simp only[spec_CirclesUpTo.l0]at H
 by_cases c27:x41_3<(l0.length:Int)
 ·
  rw[if_pos c27]at H
  have c27b0:=decide_eq_true c27
  clear c27
  obtain⟨c28,H⟩:=ip_ H
  have c28b0:=decide_eq_true c28
  clear c28
  obtain⟨c29,H⟩:=ip_ H
  have c29b0:=decide_eq_true c29
  clear c29
  by_cases c30:((rd_T37 l0 x41_3).f1)≤a1
  rotate_left
  ·
   rw[if_neg c30]at H
   have c30b0:=decide_eq_false c30
   clear c30
   have H':=am H
   clear H
   have p350:0≤(x41_3:Int):=of_decide_eq_true Z5
   have q350:x41_3<(l0.length:Int):=of_decide_eq_true Z5
   obtain⟨ad350,e350,hx350_0,hx350_1,hx350_2,hx350_3⟩:=at_T37 (Kd.V_reads' HO_39.1).2.2 x41_3 p350 q350
   cases e350
   replace p350:=eq_true p350
   replace q350:=eq_true q350
   go_wp2_with (first|((with_reducible refine gd_ 9 rfl ?_);(try(refine gate_guard (by rfl) ?_;dsimp only));refine box_event ?hg (N:=9) ?hd (cs:=#[.int .i64 0,.int .i64 0,.int .i64 0,.int .i64 0]) (t:=37) ?hr ?_;(case hd=>rfl);(case hg=>rfl);(case hr=>first|(go_simp;done)|(go_simp;rfl));intro gboa hg w35 hbox hb;replace HO_0:=am (Kd.V_below (Kd.V_elderB (Z17 HO_0) gboa (Nat.le_of_eq hg.symm)) hb);replace HO_7:=am (Kd.R_below (Kd.R_elderB (Z1 HO_7) gboa (Nat.le_of_eq hg.symm)) hb);replace HO_39:=am (Kd.V_below (Kd.V_elderB (Z17 HO_39) gboa (Nat.le_of_eq hg.symm)) hb);have BKoa:=am hbox;have GWoa:=gG_ hg;have GEoa:=gG_ hg;replace HB:=bw_ hb;clear hb hbox hg;obtain⟨_,_,_,_,_,_,_,_⟩:=cz4_ BKoa))
   go_roundg k3
   case measure=>have:=HJ2.1;have:=HJ10.1;have:=HK3.1;omega
   exact⟨(x7_3),(wrap64 (x41_3+1)),Z7,H',⟨(by have:=HJ2.1;have:=HJ10.1;have:=HK3.1;omega)⟩,⟨(Z39 HO_0)⟩,⟨(by(with_reducible repeat(first|apply Kd.R_alloc|apply Kd.R_drewN|apply Kd.R_drew));exact Kd.R_mono (Kd.R_far (p:=⟨gboa,3,none⟩) (Kd.R_far (p:=⟨gboa,2,none⟩) (Kd.R_far (p:=⟨gboa,1,none⟩) (Kd.R_far (p:=⟨gboa,0,none⟩) (Kd.R_mono HO_7.1 (fun k_ hk=>(⟨hk,hk.2⟩:_∧k_≠gboa))) (fun _ hk=>hk.2) (.int .i64 ((rd_T37 l0 x41_3).f0))) (fun _ hk=>hk.2) (.int .i64 ((rd_T37 l0 x41_3).f1))) (fun _ hk=>hk.2) (.int .i64 ((rd_T37 l0 x41_3).f2))) (fun _ hk=>hk.2) (.int .i64 ((rd_T37 l0 x41_3).f3))) (fun _ hk=>hk.1.1))⟩,⟨(Z39 HO_39)⟩,⟨ZB⟩⟩
  rw[if_pos c30]at H
  have c30b0:=decide_eq_true c30
  clear c30
  obtain⟨c31,H⟩:=ip_ H
  have LMc31:=am c31
  clear c31
  obtain⟨y_a,hy_a⟩:∃y_:List (S37),y_=(x7_3++[(⟨(rd_T37 l0 x41_3).f0,(rd_T37 l0 x41_3).f1,(rd_T37 l0 x41_3).f2,(rd_T37 l0 x41_3).f3⟩:S37)]):=⟨_,rfl⟩
  replace H:(spec_CirclesUpTo.l0 k3 l0 a1 y_a l0 (l0.length:Int) (wrap64 (x41_3+1)))=some (r1,r2):=Z8
  have Ny_a:=am hy_a
  clear hy_a
  have H':=am H
  clear H
  have p350:0≤(x41_3:Int):=of_decide_eq_true Z5
  have q350:x41_3<(l0.length:Int):=of_decide_eq_true Z5
  obtain⟨ad350,e350,hx350_0,hx350_1,hx350_2,hx350_3⟩:=at_T37 (Kd.V_reads' HO_39.1).2.2 x41_3 p350 q350
  cases e350
  replace p350:=eq_true p350
  replace q350:=eq_true q350
  go_wp2_with (first|((with_reducible refine gd_ 9 rfl ?_);(try(refine gate_guard (by rfl) ?_;dsimp only));refine box_event ?hg (N:=9) ?hd (cs:=#[.int .i64 0,.int .i64 0,.int .i64 0,.int .i64 0]) (t:=37) ?hr ?_;(case hd=>rfl);(case hg=>rfl);(case hr=>first|(go_simp;done)|(go_simp;rfl));intro gboa hg w32 hbox hb;replace HO_0:=am (Kd.V_below (Kd.V_elderB (Z17 HO_0) gboa (Nat.le_of_eq hg.symm)) hb);replace HO_7:=am (Kd.R_below (Kd.R_elderB (Z1 HO_7) gboa (Nat.le_of_eq hg.symm)) hb);replace HO_39:=am (Kd.V_below (Kd.V_elderB (Z17 HO_39) gboa (Nat.le_of_eq hg.symm)) hb);have BKoa:=am hbox;have GWoa:=gG_ hg;have GEoa:=gG_ hg;replace HB:=bw_ hb;clear hb hbox hg;obtain⟨_,_,_,_,_,_,_,_⟩:=cz4_ BKoa)|((with_reducible refine gate_builtin (b:= .append) (xs:=#[.tmp 49,.tmp 51]) rfl ?_);(try(refine gate_guard (by rfl) ?_;dsimp only));at_builtin;refine Kd.R_append k37 (w0:=w) w.heap.size rfl (.tmp 49) (.tmp 51) 24 37 (.agg #[(.int .i64 0),(.int .i64 0),(.int .i64 0),(.int .i64 0)]) 32 rfl Tryz.underlying24 info37 rfl (by decide) (by omega) u7 x7_3 (⟨(rd_T37 l0 x41_3).f0,(rd_T37 l0 x41_3).f1,(rd_T37 l0 x41_3).f2,(rd_T37 l0 x41_3).f3⟩:S37) [.int .i64 ((rd_T37 l0 x41_3).f0),.int .i64 ((rd_T37 l0 x41_3).f1),.int .i64 ((rd_T37 l0 x41_3).f2),.int .i64 ((rd_T37 l0 x41_3).f3)] (fun k_=>(w.heap.size≤k_)∧k_≠gboa) (fun _=>False) rfl Z56 ?aP (fun _ hk=>hk.elim) ?aF ?aO ?aB ?aS ?aL ?_;(case aP=>exact k37_mkM _ _ _ (⟨(rd_T37 l0 x41_3).f0,(rd_T37 l0 x41_3).f1,(rd_T37 l0 x41_3).f2,(rd_T37 l0 x41_3).f3⟩:S37));(case aB=>exact ZB);(case aF=>exact(fun k_ hk=>⟨(Nat.le_trans zs_ hk),Kd.freshB (bb_ BKoa) k_ hk⟩));(case aO=>exact(by(with_reducible repeat(first|apply Kd.R_alloc|apply Kd.R_drewN|apply Kd.R_drew));exact Kd.R_mono (Kd.R_far (p:=⟨gboa,3,none⟩) (Kd.R_far (p:=⟨gboa,2,none⟩) (Kd.R_far (p:=⟨gboa,1,none⟩) (Kd.R_far (p:=⟨gboa,0,none⟩) (Kd.R_mono HO_7.1 (fun k_ hk=>(⟨hk,hk.2⟩:_∧k_≠gboa))) (fun _ hk=>hk.2) (.int .i64 ((rd_T37 l0 x41_3).f0))) (fun _ hk=>hk.2) (.int .i64 ((rd_T37 l0 x41_3).f1))) (fun _ hk=>hk.2) (.int .i64 ((rd_T37 l0 x41_3).f2))) (fun _ hk=>hk.2) (.int .i64 ((rd_T37 l0 x41_3).f3))) (fun _ hk=>⟨hk.1.1,hk.1.2⟩)));(case aS=>exact zs_);(case aL=>have:=LMc31.out;omega);intro v353 w34 ho hb hg hat;rw[←Ny_a.1]at ho;replace HO_0:=am (Kd.V_afterv (ok:=(fun k_=>(P0_ k_∨w.heap.size≤k_)∧k_≠gboa)) (Z38 HO_0) hg hat);replace HO_39:=am (Kd.V_afterv (ok:=(fun k_=>(P0_ k_∨w.heap.size≤k_)∧k_≠gboa)) (Z38 HO_39) hg hat);replace BKoa:=am (blk_grown (bb_ BKoa) hg (Kd.R_away HO_7.1 (fun _ hk=>hk.2)));replace HB:=am hb;have HOod:=am ho;clear HO_7;clear ho hb hg hat))
  go_roundg k3
  case measure=>have:=HJ2.1;have:=HJ10.1;have:=HK3.1;omega
  exact⟨(y_a),(wrap64 (x41_3+1)),Z7,H',⟨(by have:=HJ2.1;have:=HJ10.1;have:=HK3.1;omega)⟩,⟨(by(with_reducible repeat(first|apply Kd.V_alloc|apply Kd.V_drewN|apply Kd.V_drew));exact Kd.V_mono HO_0.1 (fun _ hk=>⟨hk.1.1,hk.2⟩))⟩,⟨(Z32 HOod)⟩,⟨(by(with_reducible repeat(first|apply Kd.V_alloc|apply Kd.V_drewN|apply Kd.V_drew));exact Kd.V_mono HO_39.1 (fun _ hk=>⟨hk.1.1,hk.2⟩))⟩,⟨ZB⟩⟩
 rw[if_neg c27]at H
 have c27b0:=decide_eq_false c27
 clear c27
 obtain⟨y_b,hy_b⟩:∃y_:List (S74),y_=(([(⟨l0,(-1)⟩:S74)]:List (S74))):=⟨_,rfl⟩
 replace H:(spec_CirclesUpTo.l1 k3 a1 x7_3 y_b 0)=some (r1,r2):=Z14
 have Ny_b:=am hy_b
 clear hy_b
 have H':=am H
 clear H
 go_wp2_with (first|((with_reducible refine gd_ 56 rfl ?_);(try(refine gate_guard (by rfl) ?_;dsimp only));refine Kd.N_lit k74 _ 74 ?hg (N':=56) ?hd (xs:=([(⟨l0,(-1)⟩:S74)]:List (S74))) (inner:=[.slice A0 l0.length c0,.int .i64 (-1)]) (ok:=(fun k_=>(P0_ k_∨w.heap.size≤k_)∧some k_≠(u7:Value).ownBlock)) (okp:=(fun k_=>(P0_ k_∨w.heap.size≤k_)∧some k_≠(u7:Value).ownBlock)) ?hr ?hp (fun _ hk=>hk) ((show∀k_,wr.heap.size≤k_→(fun k_=>(P0_ k_∨w.heap.size≤k_)∧some k_≠(u7:Value).ownBlock) k_ from fun k_ hk=>⟨(.inr (Nat.le_trans zs_ hk)),Kd.fresh' (Kd.R_lt (Z1 HO_7)) k_ hk⟩) _ (Nat.le_refl _)) (Below.refl _ _) (Nat.le_refl _) (by simp) ?_;(case hd=>rfl);(case hg=>rfl);(case hr=>first|(go_simp;done)|(go_simp;rfl));(case hp=>exact(Reps.c2 (show Kd.FK k74 _ _ (⟨l0,(-1)⟩:S74) [.slice A0 l0.length c0,.int .i64 (-1)]from(k74_mkF _ _ (⟨l0,(-1)⟩:S74) (Kd.V_reads' (Kd.V_mono (ok':=(fun k_=>(P0_ k_∨w.heap.size≤k_)∧some k_≠(u7:Value).ownBlock)) (HO_0.1) (fun k_ hk=>⟨hk.1,hk.2⟩))).2.1 (Kd.V_F (Kd.V_mono (ok':=(fun k_=>(P0_ k_∨w.heap.size≤k_)∧some k_≠(u7:Value).ownBlock)) (HO_0.1) (fun k_ hk=>⟨hk.1,hk.2⟩))))) (Reps.none _ _)));intro v356 w37 ho38 hb hg_ hnew_;clear hg_ hnew_;(first|rw[←Ny_b.1]at ho38|(simp only[Int.reduceToNat]at ho38;rw[←Ny_b.1]at ho38));replace HO_0:=am (Kd.V_elder' (Z17 HO_0) (by first|exact Kd.N_base ho38|exact Kd.S_base ho38) hb);replace HO_7:=am (Kd.R_below (Z1 HO_7) hb);replace HO_39:=am (Kd.V_elder' (Z17 HO_39) (by first|exact Kd.N_base ho38|exact Kd.S_base ho38) hb);have HOoe:=am (Kd.N_lower ho38 zs_);replace HB:=bw_ hb;clear hb ho38))
 go_loopg [7,10,11] k3 (fun kq v7 v10 v11 w'=>∃(x7_4:List (S37)) (x10_4:List (S74)) (x11_4:Int),v11= .int .i64 x11_4∧Aside0 (spec_CirclesUpTo.l1 kq a1 x7_4 x10_4 x11_4=some (r1,r2))∧Aside0 (kq≤k3)∧Aside0 (Kd.R k37 37 w' w.heap.size (fun k_=>(w.heap.size≤k_)) v7 x7_4)∧Aside0 (Kd.N k74 74 w' w.heap.size (fun k_=>(P0_ k_∨w.heap.size≤k_)∧some k_≠(v7:Value).ownBlock) v10 x10_4)∧Aside0 (Below w.heap.size w w'))
 case atStart=>exact⟨(x7_3),(y_b),(0),Z7,H',⟨Nat.le_refl _⟩,⟨(Z1 HO_7)⟩,⟨(Z29 HOoe)⟩,⟨ZB⟩⟩
 clear H'
 obtain⟨x7_4,x10_4,x11_4,rfl,HA,HK4,HO_7,HO_10,HB⟩:=hrel
 obtain _|k4:=gk
 ·
  exact absurd HA.out (by simp[spec_CirclesUpTo.l1])
 have H:=HA.out
 clear HA
 simp only[spec_CirclesUpTo.l1]at H
 by_cases c39:x11_4<(x10_4.length:Int)
 rotate_left
 ·
  rw[if_neg c39]at H
  have c39b0:=decide_eq_false c39
  clear c39
  simp only[Option.some.injEq,Prod.mk.injEq]at H
  obtain⟨rfl,rfl⟩:=H
  obtain⟨Ao74,co74,eo74⟩:=Kd.N_slice HO_10.1
  subst eo74
  go_wp2
  go_ret2
  exact⟨_,Z6,(Z1 HO_7),ZB⟩
 rw[if_pos c39]at H
 have c39b0:=decide_eq_true c39
 clear c39
 have H':=am H
 clear H
 obtain⟨Ao40,co40,eo40⟩:=Kd.N_slice HO_10.1
 subst eo40
 go_wp2
 go_loopg [7,10,12] k4 (fun kq v7 v10 v12 w'=>∃(x7_5:List (S37)) (x10_5:List (S74)) (x12_5:Int),v12= .int .i64 x12_5∧Aside0 (spec_CirclesUpTo.l2 kq a1 x7_5 x10_5 x11_4 x12_5=some (r1,r2))∧Aside0 (kq≤k4)∧Aside0 (Kd.R k37 37 w' w.heap.size (fun k_=>(w.heap.size≤k_)) v7 x7_5)∧Aside0 (Kd.N k74 74 w' w.heap.size (fun k_=>(P0_ k_∨w.heap.size≤k_)∧some k_≠(v7:Value).ownBlock) v10 x10_5)∧Aside0 (Below w.heap.size w w'))
 case atStart=>exact⟨(x7_4),(x10_4),(0),Z7,H',⟨Nat.le_refl _⟩,⟨(Z1 HO_7)⟩,⟨(Z29 HO_10)⟩,⟨ZB⟩⟩
 clear H'
 obtain⟨x7_5,x10_5,x12_5,rfl,HA,HK5,HO_7,HO_10,HB⟩:=hrel
 obtain _|k5:=gk
 ·
  exact absurd HA.out (by simp[spec_CirclesUpTo.l2])
 have H:=HA.out
 clear HA
 simp only[spec_CirclesUpTo.l2]at H
 by_cases c41:x12_5<4
 rotate_left
 ·
  rw[if_neg c41]at H
  have c41b0:=decide_eq_false c41
  clear c41
  have H':=am H
  clear H
  go_wp2
  go_roundg k5
  case measure=>have:=HJ2.1;have:=HJ10.1;have:=HK3.1;have:=HK4.1;have:=HK5.1;omega
  exact⟨(x7_5),(x10_5),(wrap64 (x11_4+1)),Z7,H',⟨Z49⟩,⟨(Z1 HO_7)⟩,⟨(Z29 HO_10)⟩,⟨ZB⟩⟩
 rw[if_pos c41]at H
 have c41b0:=decide_eq_true c41
 clear c41
 obtain⟨c42,H⟩:=ip_ H
 have c42b0:=decide_eq_true c42
 clear c42
 obtain⟨c43,H⟩:=ip_ H
 have c43b0:=decide_eq_true c43
 clear c43
 by_cases c44:x12_5=((rd_T74 x10_5 x11_4).f1)
 ·
  rw[if_pos c44]at H
  obtain⟨c44b0,c44b1⟩:=eq2_ c44
  clear c44
  have H':=am H
  clear H
  obtain⟨Ao45,co45,eo45⟩:=Kd.N_slice HO_10.1
  subst eo45
  have p358:0≤(x11_4:Int):=of_decide_eq_true Z5
  have q358:x11_4<(x10_5.length:Int):=of_decide_eq_true Z5
  obtain⟨ad358,A358_0,c358_0,e358,hx358_0,hx358_1,hl358_0,hi358_0⟩:=at_T74 (Kd.N_reads' HO_10.1).2.2 x11_4 p358 q358
  cases e358
  obtain⟨ce358,hce358,hMe358,hcc358⟩:=Kd.N_get HO_10.1 z74 x11_4 p358 Z59
  obtain⟨ua358_0,uc358_0,rfl,ul358_0,ge358_0⟩:=k74_openF hMe358
  have hv358_0:=hcc358 0 _ rfl
  rw[Nat.add_zero]at hv358_0
  replace hv358_0:=Option.some.inj (hv358_0.symm.trans hx358_0)
  injection hv358_0 with hva_ hvn_ hvc_
  rw[hva_]at ge358_0
  rw[hvc_]at ul358_0
  have HL358_0:=am (show Kd.V k37 37 _ w.heap.size _ _ ((rd_T74 x10_5 x11_4).f0)from Kd.V_mk ul358_0 ge358_0)
  clear hva_ hvn_ hvc_ ge358_0 ul358_0
  clear hcc358 hce358
  have HR358_0:=am hi358_0
  have HC358_0:=am hl358_0
  clear hi358_0 hl358_0
  replace p358:=eq_true p358
  replace q358:=eq_true q358
  go_wp2
  go_roundg k5
  case measure=>have:=HJ2.1;have:=HJ10.1;have:=HK3.1;have:=HK4.1;have:=HK5.1;omega
  exact⟨(x7_5),(x10_5),(wrap64 (x12_5+1)),Z7,H',⟨Z49⟩,⟨(Z1 HO_7)⟩,⟨(Z29 HO_10)⟩,⟨ZB⟩⟩
 rw[if_neg c44]at H
 obtain⟨c44b0,c44b1⟩:=ne2_ c44
 obtain⟨t360,A46,H⟩:=bs_ H
 try dsimp only at H
 obtain⟨c47,H⟩:=ip_ H
 have c47b0:=decide_eq_true c47
 clear c47
 obtain⟨c48,H⟩:=ip_ H
 have c48b0:=decide_eq_true c48
 clear c48
 by_cases c49:((rd_T37 t360 x12_5).f1)>a1
 ·
  rw[if_pos c49]at H
  have c49b0:decide (a1<((rd_T37 t360 x12_5).f1))=true:=decide_eq_true c49
  clear c49
  have H':=am H
  clear H
  obtain⟨Ao50,co50,eo50⟩:=Kd.N_slice HO_10.1
  subst eo50
  have p358:0≤(x11_4:Int):=of_decide_eq_true Z5
  have q358:x11_4<(x10_5.length:Int):=of_decide_eq_true Z5
  obtain⟨ad358,A358_0,c358_0,e358,hx358_0,hx358_1,hl358_0,hi358_0⟩:=at_T74 (Kd.N_reads' HO_10.1).2.2 x11_4 p358 q358
  cases e358
  obtain⟨ce358,hce358,hMe358,hcc358⟩:=Kd.N_get HO_10.1 z74 x11_4 p358 Z59
  obtain⟨ua358_0,uc358_0,rfl,ul358_0,ge358_0⟩:=k74_openF hMe358
  have hv358_0:=hcc358 0 _ rfl
  rw[Nat.add_zero]at hv358_0
  replace hv358_0:=Option.some.inj (hv358_0.symm.trans hx358_0)
  injection hv358_0 with hva_ hvn_ hvc_
  rw[hva_]at ge358_0
  rw[hvc_]at ul358_0
  have HL358_0:=am (show Kd.V k37 37 _ w.heap.size _ _ ((rd_T74 x10_5 x11_4).f0)from Kd.V_mk ul358_0 ge358_0)
  clear hva_ hvn_ hvc_ ge358_0 ul358_0
  clear hcc358 hce358
  have HR358_0:=am hi358_0
  have HC358_0:=am hl358_0
  clear hi358_0 hl358_0
  replace p358:=eq_true p358
  replace q358:=eq_true q358
  have p359:0≤(x11_4:Int):=of_decide_eq_true Z5
  have q359:x11_4<(x10_5.length:Int):=of_decide_eq_true Z5
  obtain⟨ad359,A359_0,c359_0,e359,hx359_0,hx359_1,hl359_0,hi359_0⟩:=at_T74 (Kd.N_reads' HO_10.1).2.2 x11_4 p359 q359
  obtain rfl:ad358=ad359:=(by injection e359)
  obtain⟨ce359,hce359,hMe359,hcc359⟩:=Kd.N_get HO_10.1 z74 x11_4 p359 Z60
  obtain⟨ua359_0,uc359_0,rfl,ul359_0,ge359_0⟩:=k74_openF hMe359
  have hv359_0:=hcc359 0 _ rfl
  rw[Nat.add_zero]at hv359_0
  replace hv359_0:=Option.some.inj (hv359_0.symm.trans hx359_0)
  injection hv359_0 with hva_ hvn_ hvc_
  rw[hva_]at ge359_0
  rw[hvc_]at ul359_0
  have HL359_0:=am (show Kd.V k37 37 _ w.heap.size _ _ ((rd_T74 x10_5 x11_4).f0)from Kd.V_mk ul359_0 ge359_0)
  clear hva_ hvn_ hvc_ ge359_0 ul359_0
  clear hcc359 hce359
  have HR359_0:=am hi359_0
  have HC359_0:=am hl359_0
  clear hi359_0 hl359_0
  replace p359:=eq_true p359
  replace q359:=eq_true q359
  have ea_:=Option.some.inj (hx358_0.symm.trans hx359_0)
  injection ea_ with ea_ en_ ec_
  subst ea_
  subst ec_
  clear en_
  go_wp2_with (first|((with_reducible refine gc_ 46 rfl ?_);refine gE_ (some 80) Tryz.func46 (spec_ciSwap.calls k5 _ _ ((rd_T74 x10_5 x11_4).f0) x12_5 t360 _ ?side1 ?side2 A46.1) ?_;(case side1=>exact(Z58 HR359_0));(case side2=>exact HC359_0.1);rintro v361 w51 ⟨ho0,hb⟩;replace HO_10:=am (Kd.N_elder' (Z29 HO_10) (Kd.R_base ho0) hb);replace HL358_0:=am (Kd.V_elder' (Z17 HL358_0) (Kd.R_base ho0) hb);replace HL359_0:=am (Kd.V_elder' (Z17 HL359_0) (Kd.R_base ho0) hb);have HOof:=am (Kd.R_lower (Kd.R_new' (Kd.R_newM (M:=fun k_=>(w.heap.size≤k_)) ho0 zs_ (fun k_ h_=>h_)) (Kd.R_lt (Z1 HO_7))) zs_);replace HO_7:=am (Kd.R_elder' (Z1 HO_7) (Kd.R_base ho0) hb);replace HR358_0:=am (Kd.C_below (Z9 HR358_0) hb);replace HR359_0:=am (Kd.C_below (Z9 HR359_0) hb);replace HB:=bw_ hb;clear hb;(try clear ho0);obtain⟨Ao52,co52,eo52⟩:=Kd.R_slice HOof.1;subst eo52;have p363:0≤(x12_5:Int):=of_decide_eq_true Z5;have q363:x12_5<(t360.length:Int):=of_decide_eq_true Z5;obtain⟨ad363,e363,hx363_0,hx363_1,hx363_2,hx363_3⟩:=at_T37 (Kd.R_reads' HOof.1).2.2 x12_5 p363 q363;cases e363;replace p363:=eq_true p363;replace q363:=eq_true q363))
  go_roundg k5
  case measure=>have:=HJ2.1;have:=HJ10.1;have:=HK3.1;have:=HK4.1;have:=HK5.1;omega
  exact⟨(x7_5),(x10_5),(wrap64 (x12_5+1)),Z7,H',⟨Z49⟩,⟨(Z32 HO_7)⟩,⟨(by(with_reducible repeat(first|apply Kd.N_alloc|apply Kd.N_drewN|apply Kd.N_drew));exact Kd.N_mono HO_10.1 (fun _ hk=>⟨hk.1.1,hk.1.2⟩))⟩,⟨ZB⟩⟩
 rw[if_neg c49]at H
 have c49b0:decide (a1<((rd_T37 t360 x12_5).f1))=false:=decide_eq_false c49
 clear c49
 obtain⟨t365,A53,H⟩:=bs_ H
 try dsimp only at H
 by_cases c54:t365=true
 rotate_left
 ·
  replace c54:=Bool.eq_false_iff.mpr c54
  subst c54
  rw[if_neg (show¬(false=true) by decide)]at H
  simp only[Option.some.injEq,Prod.mk.injEq]at H
  obtain⟨rfl,rfl⟩:=H
  obtain⟨Ao70,co70,eo70⟩:=Kd.N_slice HO_10.1
  subst eo70
  have p358:0≤(x11_4:Int):=of_decide_eq_true Z5
  have q358:x11_4<(x10_5.length:Int):=of_decide_eq_true Z5
  obtain⟨ad358,A358_0,c358_0,e358,hx358_0,hx358_1,hl358_0,hi358_0⟩:=at_T74 (Kd.N_reads' HO_10.1).2.2 x11_4 p358 q358
  cases e358
  obtain⟨ce358,hce358,hMe358,hcc358⟩:=Kd.N_get HO_10.1 z74 x11_4 p358 Z59
  obtain⟨ua358_0,uc358_0,rfl,ul358_0,ge358_0⟩:=k74_openF hMe358
  have hv358_0:=hcc358 0 _ rfl
  rw[Nat.add_zero]at hv358_0
  replace hv358_0:=Option.some.inj (hv358_0.symm.trans hx358_0)
  injection hv358_0 with hva_ hvn_ hvc_
  rw[hva_]at ge358_0
  rw[hvc_]at ul358_0
  have HL358_0:=am (show Kd.V k37 37 _ w.heap.size _ _ ((rd_T74 x10_5 x11_4).f0)from Kd.V_mk ul358_0 ge358_0)
  clear hva_ hvn_ hvc_ ge358_0 ul358_0
  clear hcc358 hce358
  have HR358_0:=am hi358_0
  have HC358_0:=am hl358_0
  clear hi358_0 hl358_0
  replace p358:=eq_true p358
  replace q358:=eq_true q358
  have p359:0≤(x11_4:Int):=of_decide_eq_true Z5
  have q359:x11_4<(x10_5.length:Int):=of_decide_eq_true Z5
  obtain⟨ad359,A359_0,c359_0,e359,hx359_0,hx359_1,hl359_0,hi359_0⟩:=at_T74 (Kd.N_reads' HO_10.1).2.2 x11_4 p359 q359
  obtain rfl:ad358=ad359:=(by injection e359)
  obtain⟨ce359,hce359,hMe359,hcc359⟩:=Kd.N_get HO_10.1 z74 x11_4 p359 Z60
  obtain⟨ua359_0,uc359_0,rfl,ul359_0,ge359_0⟩:=k74_openF hMe359
  have hv359_0:=hcc359 0 _ rfl
  rw[Nat.add_zero]at hv359_0
  replace hv359_0:=Option.some.inj (hv359_0.symm.trans hx359_0)
  injection hv359_0 with hva_ hvn_ hvc_
  rw[hva_]at ge359_0
  rw[hvc_]at ul359_0
  have HL359_0:=am (show Kd.V k37 37 _ w.heap.size _ _ ((rd_T74 x10_5 x11_4).f0)from Kd.V_mk ul359_0 ge359_0)
  clear hva_ hvn_ hvc_ ge359_0 ul359_0
  clear hcc359 hce359
  have HR359_0:=am hi359_0
  have HC359_0:=am hl359_0
  clear hi359_0 hl359_0
  replace p359:=eq_true p359
  replace q359:=eq_true q359
  have ea_:=Option.some.inj (hx358_0.symm.trans hx359_0)
  injection ea_ with ea_ en_ ec_
  subst ea_
  subst ec_
  clear en_
  go_wp2_with (first|((with_reducible refine gc_ 46 rfl ?_);refine gE_ (some 80) Tryz.func46 (spec_ciSwap.calls k5 _ _ ((rd_T74 x10_5 x11_4).f0) x12_5 t360 _ ?side1 ?side2 A46.1) ?_;(case side1=>exact(Z58 HR359_0));(case side2=>exact HC359_0.1);rintro v361 w71 ⟨ho0,hb⟩;replace HO_10:=am (Kd.N_elder' (Z29 HO_10) (Kd.R_base ho0) hb);replace HL358_0:=am (Kd.V_elder' (Z17 HL358_0) (Kd.R_base ho0) hb);replace HL359_0:=am (Kd.V_elder' (Z17 HL359_0) (Kd.R_base ho0) hb);have HOof:=am (Kd.R_lower (Kd.R_new' (Kd.R_newM (M:=fun k_=>(w.heap.size≤k_)) ho0 zs_ (fun k_ h_=>h_)) (Kd.R_lt (Z1 HO_7))) zs_);replace HO_7:=am (Kd.R_elder' (Z1 HO_7) (Kd.R_base ho0) hb);replace HR358_0:=am (Kd.C_below (Z9 HR358_0) hb);replace HR359_0:=am (Kd.C_below (Z9 HR359_0) hb);replace HB:=bw_ hb;clear hb;(try clear ho0);obtain⟨Ao72,co72,eo72⟩:=Kd.R_slice HOof.1;subst eo72;have p363:0≤(x12_5:Int):=of_decide_eq_true Z5;have q363:x12_5<(t360.length:Int):=of_decide_eq_true Z5;obtain⟨ad363,e363,hx363_0,hx363_1,hx363_2,hx363_3⟩:=at_T37 (Kd.R_reads' HOof.1).2.2 x12_5 p363 q363;cases e363;replace p363:=eq_true p363;replace q363:=eq_true q363;have p364:0≤(x12_5:Int):=of_decide_eq_true Z5;have q364:x12_5<(t360.length:Int):=of_decide_eq_true Z5;obtain⟨ad364,e364,hx364_0,hx364_1,hx364_2,hx364_3⟩:=at_T37 (Kd.R_reads' HOof.1).2.2 x12_5 p364 q364;obtain rfl:ad363=ad364:=(by injection e364);replace p364:=eq_true p364;replace q364:=eq_true q364)|((with_reducible refine gc_ 47 rfl ?_);refine gM_ (some 92) Tryz.func47 (spec_ciGood.calls k5 ((rd_T37 t360 x12_5).f0) ((rd_T37 t360 x12_5).f1) ((rd_T37 t360 x12_5).f2) ((rd_T37 t360 x12_5).f3) false _ A53.1) ?_;intro w73 hb;replace HO_7:=am (Kd.R_below (Z1 HO_7) hb);replace HO_10:=am (Kd.N_below (Z29 HO_10) hb);replace HL358_0:=am (Kd.V_below (Z17 HL358_0) hb);replace HL359_0:=am (Kd.V_below (Z17 HL359_0) hb);replace HOof:=am (Kd.R_below (Z1 HOof) hb);replace HR358_0:=am (Kd.C_below (Z9 HR358_0) hb);replace HR359_0:=am (Kd.C_below (Z9 HR359_0) hb);replace HB:=bw_ hb;clear hb))
  go_ret2
  exact⟨_,Z6,Z23,ZB⟩
 subst c54
 rw[if_pos rfl]at H
 by_cases c55:(x7_5.length:Int)=300
 ·
  rw[if_pos c55]at H
  obtain⟨c55b0,c55b1⟩:=eq2_ c55
  clear c55
  simp only[Option.some.injEq,Prod.mk.injEq]at H
  obtain⟨rfl,rfl⟩:=H
  obtain⟨Ao56,co56,eo56⟩:=Kd.N_slice HO_10.1
  subst eo56
  have p358:0≤(x11_4:Int):=of_decide_eq_true Z5
  have q358:x11_4<(x10_5.length:Int):=of_decide_eq_true Z5
  obtain⟨ad358,A358_0,c358_0,e358,hx358_0,hx358_1,hl358_0,hi358_0⟩:=at_T74 (Kd.N_reads' HO_10.1).2.2 x11_4 p358 q358
  cases e358
  obtain⟨ce358,hce358,hMe358,hcc358⟩:=Kd.N_get HO_10.1 z74 x11_4 p358 Z59
  obtain⟨ua358_0,uc358_0,rfl,ul358_0,ge358_0⟩:=k74_openF hMe358
  have hv358_0:=hcc358 0 _ rfl
  rw[Nat.add_zero]at hv358_0
  replace hv358_0:=Option.some.inj (hv358_0.symm.trans hx358_0)
  injection hv358_0 with hva_ hvn_ hvc_
  rw[hva_]at ge358_0
  rw[hvc_]at ul358_0
  have HL358_0:=am (show Kd.V k37 37 _ w.heap.size _ _ ((rd_T74 x10_5 x11_4).f0)from Kd.V_mk ul358_0 ge358_0)
  clear hva_ hvn_ hvc_ ge358_0 ul358_0
  clear hcc358 hce358
  have HR358_0:=am hi358_0
  have HC358_0:=am hl358_0
  clear hi358_0 hl358_0
  replace p358:=eq_true p358
  replace q358:=eq_true q358
  have p359:0≤(x11_4:Int):=of_decide_eq_true Z5
  have q359:x11_4<(x10_5.length:Int):=of_decide_eq_true Z5
  obtain⟨ad359,A359_0,c359_0,e359,hx359_0,hx359_1,hl359_0,hi359_0⟩:=at_T74 (Kd.N_reads' HO_10.1).2.2 x11_4 p359 q359
  obtain rfl:ad358=ad359:=(by injection e359)
  obtain⟨ce359,hce359,hMe359,hcc359⟩:=Kd.N_get HO_10.1 z74 x11_4 p359 Z60
  obtain⟨ua359_0,uc359_0,rfl,ul359_0,ge359_0⟩:=k74_openF hMe359
  have hv359_0:=hcc359 0 _ rfl
  rw[Nat.add_zero]at hv359_0
  replace hv359_0:=Option.some.inj (hv359_0.symm.trans hx359_0)
  injection hv359_0 with hva_ hvn_ hvc_
  rw[hva_]at ge359_0
  rw[hvc_]at ul359_0
  have HL359_0:=am (show Kd.V k37 37 _ w.heap.size _ _ ((rd_T74 x10_5 x11_4).f0)from Kd.V_mk ul359_0 ge359_0)
  clear hva_ hvn_ hvc_ ge359_0 ul359_0
  clear hcc359 hce359
  have HR359_0:=am hi359_0
  have HC359_0:=am hl359_0
  clear hi359_0 hl359_0
  replace p359:=eq_true p359
  replace q359:=eq_true q359
  have ea_:=Option.some.inj (hx358_0.symm.trans hx359_0)
  injection ea_ with ea_ en_ ec_
  subst ea_
  subst ec_
  clear en_
  go_wp2_with (first|((with_reducible refine gc_ 46 rfl ?_);refine gE_ (some 80) Tryz.func46 (spec_ciSwap.calls k5 _ _ ((rd_T74 x10_5 x11_4).f0) x12_5 t360 _ ?side1 ?side2 A46.1) ?_;(case side1=>exact(Z58 HR359_0));(case side2=>exact HC359_0.1);rintro v361 w57 ⟨ho0,hb⟩;replace HO_10:=am (Kd.N_elder' (Z29 HO_10) (Kd.R_base ho0) hb);replace HL358_0:=am (Kd.V_elder' (Z17 HL358_0) (Kd.R_base ho0) hb);replace HL359_0:=am (Kd.V_elder' (Z17 HL359_0) (Kd.R_base ho0) hb);have HOof:=am (Kd.R_lower (Kd.R_new' (Kd.R_newM (M:=fun k_=>(w.heap.size≤k_)) ho0 zs_ (fun k_ h_=>h_)) (Kd.R_lt (Z1 HO_7))) zs_);replace HO_7:=am (Kd.R_elder' (Z1 HO_7) (Kd.R_base ho0) hb);replace HR358_0:=am (Kd.C_below (Z9 HR358_0) hb);replace HR359_0:=am (Kd.C_below (Z9 HR359_0) hb);replace HB:=bw_ hb;clear hb;(try clear ho0);obtain⟨Ao58,co58,eo58⟩:=Kd.R_slice HOof.1;subst eo58;have p363:0≤(x12_5:Int):=of_decide_eq_true Z5;have q363:x12_5<(t360.length:Int):=of_decide_eq_true Z5;obtain⟨ad363,e363,hx363_0,hx363_1,hx363_2,hx363_3⟩:=at_T37 (Kd.R_reads' HOof.1).2.2 x12_5 p363 q363;cases e363;replace p363:=eq_true p363;replace q363:=eq_true q363;have p364:0≤(x12_5:Int):=of_decide_eq_true Z5;have q364:x12_5<(t360.length:Int):=of_decide_eq_true Z5;obtain⟨ad364,e364,hx364_0,hx364_1,hx364_2,hx364_3⟩:=at_T37 (Kd.R_reads' HOof.1).2.2 x12_5 p364 q364;obtain rfl:ad363=ad364:=(by injection e364);replace p364:=eq_true p364;replace q364:=eq_true q364)|((with_reducible refine gc_ 47 rfl ?_);refine gM_ (some 92) Tryz.func47 (spec_ciGood.calls k5 ((rd_T37 t360 x12_5).f0) ((rd_T37 t360 x12_5).f1) ((rd_T37 t360 x12_5).f2) ((rd_T37 t360 x12_5).f3) true _ A53.1) ?_;intro w59 hb;replace HO_7:=am (Kd.R_below (Z1 HO_7) hb);replace HO_10:=am (Kd.N_below (Z29 HO_10) hb);replace HL358_0:=am (Kd.V_below (Z17 HL358_0) hb);replace HL359_0:=am (Kd.V_below (Z17 HL359_0) hb);replace HOof:=am (Kd.R_below (Z1 HOof) hb);replace HR358_0:=am (Kd.C_below (Z9 HR358_0) hb);replace HR359_0:=am (Kd.C_below (Z9 HR359_0) hb);replace HB:=bw_ hb;clear hb;obtain⟨Ao60,co60,eo60⟩:=Kd.R_slice HO_7.1;subst eo60))
  go_ret2
  exact⟨_,Z6,Z23,ZB⟩
 rw[if_neg c55]at H
 obtain⟨c55b0,c55b1⟩:=ne2_ c55
 obtain⟨c61,H⟩:=ip_ H
 have LMc61:=am c61
 clear c61
 obtain⟨y_c,hy_c⟩:∃y_:List (S37),y_=(x7_5++[(⟨(rd_T37 t360 x12_5).f0,(rd_T37 t360 x12_5).f1,(rd_T37 t360 x12_5).f2,(rd_T37 t360 x12_5).f3⟩:S37)]):=⟨_,rfl⟩
 replace H:(if x10_5.length<4398046511104 then(spec_CirclesUpTo.l2 k5 a1 y_c (x10_5++[(⟨t360,x12_5⟩:S74)]) x11_4 (wrap64 (x12_5+1)))else(none))=some (r1,r2):=Z24
 have Ny_c:=am hy_c
 clear hy_c
 obtain⟨c62,H⟩:=ip_ H
 have LMc62:=am c62
 clear c62
 obtain⟨y_d,hy_d⟩:∃y_:List (S74),y_=(x10_5++[(⟨t360,x12_5⟩:S74)]):=⟨_,rfl⟩
 replace H:(spec_CirclesUpTo.l2 k5 a1 y_c y_d x11_4 (wrap64 (x12_5+1)))=some (r1,r2):=Z36
 have Ny_d:=am hy_d
 clear hy_d
 have H':=am H
 clear H
 obtain⟨Ao63,co63,eo63⟩:=Kd.N_slice HO_10.1
 subst eo63
 have p358:0≤(x11_4:Int):=of_decide_eq_true Z5
 have q358:x11_4<(x10_5.length:Int):=of_decide_eq_true Z5
 obtain⟨ad358,A358_0,c358_0,e358,hx358_0,hx358_1,hl358_0,hi358_0⟩:=at_T74 (Kd.N_reads' HO_10.1).2.2 x11_4 p358 q358
 cases e358
 obtain⟨ce358,hce358,hMe358,hcc358⟩:=Kd.N_get HO_10.1 z74 x11_4 p358 Z59
 obtain⟨ua358_0,uc358_0,rfl,ul358_0,ge358_0⟩:=k74_openF hMe358
 have hv358_0:=hcc358 0 _ rfl
 rw[Nat.add_zero]at hv358_0
 replace hv358_0:=Option.some.inj (hv358_0.symm.trans hx358_0)
 injection hv358_0 with hva_ hvn_ hvc_
 rw[hva_]at ge358_0
 rw[hvc_]at ul358_0
 have HL358_0:=am (show Kd.V k37 37 _ w.heap.size _ _ ((rd_T74 x10_5 x11_4).f0)from Kd.V_mk ul358_0 ge358_0)
 clear hva_ hvn_ hvc_ ge358_0 ul358_0
 clear hcc358 hce358
 have HR358_0:=am hi358_0
 have HC358_0:=am hl358_0
 clear hi358_0 hl358_0
 replace p358:=eq_true p358
 replace q358:=eq_true q358
 have p359:0≤(x11_4:Int):=of_decide_eq_true Z5
 have q359:x11_4<(x10_5.length:Int):=of_decide_eq_true Z5
 obtain⟨ad359,A359_0,c359_0,e359,hx359_0,hx359_1,hl359_0,hi359_0⟩:=at_T74 (Kd.N_reads' HO_10.1).2.2 x11_4 p359 q359
 obtain rfl:ad358=ad359:=(by injection e359)
 obtain⟨ce359,hce359,hMe359,hcc359⟩:=Kd.N_get HO_10.1 z74 x11_4 p359 Z60
 obtain⟨ua359_0,uc359_0,rfl,ul359_0,ge359_0⟩:=k74_openF hMe359
 have hv359_0:=hcc359 0 _ rfl
 rw[Nat.add_zero]at hv359_0
 replace hv359_0:=Option.some.inj (hv359_0.symm.trans hx359_0)
 injection hv359_0 with hva_ hvn_ hvc_
 rw[hva_]at ge359_0
 rw[hvc_]at ul359_0
 have HL359_0:=am (show Kd.V k37 37 _ w.heap.size _ _ ((rd_T74 x10_5 x11_4).f0)from Kd.V_mk ul359_0 ge359_0)
 clear hva_ hvn_ hvc_ ge359_0 ul359_0
 clear hcc359 hce359
 have HR359_0:=am hi359_0
 have HC359_0:=am hl359_0
 clear hi359_0 hl359_0
 replace p359:=eq_true p359
 replace q359:=eq_true q359
 have ea_:=Option.some.inj (hx358_0.symm.trans hx359_0)
 injection ea_ with ea_ en_ ec_
 subst ea_
 subst ec_
 clear en_
 go_wp2_with (first|((with_reducible refine gc_ 46 rfl ?_);refine gE_ (some 80) Tryz.func46 (spec_ciSwap.calls k5 _ _ ((rd_T74 x10_5 x11_4).f0) x12_5 t360 _ ?side1 ?side2 A46.1) ?_;(case side1=>exact(Z58 HR359_0));(case side2=>exact HC359_0.1);rintro v361 w64 ⟨ho0,hb⟩;replace HO_10:=am (Kd.N_elder' (Z29 HO_10) (Kd.R_base ho0) hb);replace HL358_0:=am (Kd.V_elder' (Z17 HL358_0) (Kd.R_base ho0) hb);replace HL359_0:=am (Kd.V_elder' (Z17 HL359_0) (Kd.R_base ho0) hb);have HOof:=am (Kd.R_lower (Kd.R_new' (Kd.R_newM (M:=fun k_=>(w.heap.size≤k_)) ho0 zs_ (fun k_ h_=>h_)) (Kd.R_lt (Z1 HO_7))) zs_);replace HO_7:=am (Kd.R_elder' (Z1 HO_7) (Kd.R_base ho0) hb);replace HR358_0:=am (Kd.C_below (Z9 HR358_0) hb);replace HR359_0:=am (Kd.C_below (Z9 HR359_0) hb);replace HB:=bw_ hb;clear hb;(try clear ho0);obtain⟨Ao65,co65,eo65⟩:=Kd.R_slice HOof.1;subst eo65;have p363:0≤(x12_5:Int):=of_decide_eq_true Z5;have q363:x12_5<(t360.length:Int):=of_decide_eq_true Z5;obtain⟨ad363,e363,hx363_0,hx363_1,hx363_2,hx363_3⟩:=at_T37 (Kd.R_reads' HOof.1).2.2 x12_5 p363 q363;cases e363;replace p363:=eq_true p363;replace q363:=eq_true q363;have p364:0≤(x12_5:Int):=of_decide_eq_true Z5;have q364:x12_5<(t360.length:Int):=of_decide_eq_true Z5;obtain⟨ad364,e364,hx364_0,hx364_1,hx364_2,hx364_3⟩:=at_T37 (Kd.R_reads' HOof.1).2.2 x12_5 p364 q364;obtain rfl:ad363=ad364:=(by injection e364);replace p364:=eq_true p364;replace q364:=eq_true q364)|((with_reducible refine gc_ 47 rfl ?_);refine gM_ (some 92) Tryz.func47 (spec_ciGood.calls k5 ((rd_T37 t360 x12_5).f0) ((rd_T37 t360 x12_5).f1) ((rd_T37 t360 x12_5).f2) ((rd_T37 t360 x12_5).f3) true _ A53.1) ?_;intro w66 hb;replace HO_7:=am (Kd.R_below (Z1 HO_7) hb);replace HO_10:=am (Kd.N_below (Z29 HO_10) hb);replace HL358_0:=am (Kd.V_below (Z17 HL358_0) hb);replace HL359_0:=am (Kd.V_below (Z17 HL359_0) hb);replace HOof:=am (Kd.R_below (Z1 HOof) hb);replace HR358_0:=am (Kd.C_below (Z9 HR358_0) hb);replace HR359_0:=am (Kd.C_below (Z9 HR359_0) hb);replace HB:=bw_ hb;clear hb;obtain⟨Ao67,co67,eo67⟩:=Kd.R_slice HO_7.1;subst eo67;have p366:0≤(x12_5:Int):=of_decide_eq_true Z5;have q366:x12_5<(t360.length:Int):=of_decide_eq_true Z5;obtain⟨ad366,e366,hx366_0,hx366_1,hx366_2,hx366_3⟩:=at_T37 (Kd.R_reads' HOof.1).2.2 x12_5 p366 q366;obtain rfl:ad363=ad366:=(by injection e366);replace p366:=eq_true p366;replace q366:=eq_true q366)|((with_reducible refine gate_builtin (b:= .append) (xs:=#[.tmp 99,.tmp 104]) rfl ?_);(try(refine gate_guard (by rfl) ?_;dsimp only));at_builtin;refine Kd.R_append k37 (w0:=w) w.heap.size rfl (.tmp 99) (.tmp 104) 24 37 (.agg #[(.int .i64 0),(.int .i64 0),(.int .i64 0),(.int .i64 0)]) 32 rfl Tryz.underlying24 info37 rfl (by decide) (by omega) (.slice Ao67 x7_5.length co67) x7_5 (⟨(rd_T37 t360 x12_5).f0,(rd_T37 t360 x12_5).f1,(rd_T37 t360 x12_5).f2,(rd_T37 t360 x12_5).f3⟩:S37) [.int .i64 ((rd_T37 t360 x12_5).f0),.int .i64 ((rd_T37 t360 x12_5).f1),.int .i64 ((rd_T37 t360 x12_5).f2),.int .i64 ((rd_T37 t360 x12_5).f3)] (fun k_=>(w.heap.size≤k_)∧some k_≠(.slice (some ad363) t360.length co65:Value).ownBlock) (fun _=>False) rfl rfl ?aP (fun _ hk=>hk.elim) ?aF ?aO ?aB ?aS ?aL ?_;(case aP=>exact k37_mkM _ _ _ (⟨(rd_T37 t360 x12_5).f0,(rd_T37 t360 x12_5).f1,(rd_T37 t360 x12_5).f2,(rd_T37 t360 x12_5).f3⟩:S37));(case aB=>exact ZB);(case aF=>exact(fun k_ hk=>⟨(Nat.le_trans zs_ hk),Kd.fresh' (Kd.R_lt (Z1 HOof)) k_ hk⟩));(case aO=>exact(Z1 HO_7));(case aS=>exact zs_);(case aL=>have:=LMc61.out;omega);intro v368 w68 ho hb hg hat;rw[←Ny_c.1]at ho;replace HO_10:=am (Kd.N_afterv (ok:=(fun k_=>(P0_ k_∨w.heap.size≤k_)∧some k_≠(.slice (some ad363) t360.length co65:Value).ownBlock)) (by(with_reducible repeat(first|apply Kd.N_alloc|apply Kd.N_drewN|apply Kd.N_drew));exact Kd.N_mono HO_10.1 (fun _ hk=>⟨⟨hk.1.1,hk.2⟩,hk.1.2⟩)) hg hat);replace HL358_0:=am (Kd.V_afterv (ok:=(fun k_=>(P0_ k_∨w.heap.size≤k_)∧some k_≠(.slice (some ad358) x10_5.length co63:Value).ownBlock∧some k_≠(.slice (some ad363) t360.length co65:Value).ownBlock)) (by(with_reducible repeat(first|apply Kd.V_alloc|apply Kd.V_drewN|apply Kd.V_drew));exact Kd.V_mono HL358_0.1 (fun _ hk=>⟨⟨hk.1.1.1,⟨hk.1.2,hk.2⟩⟩,hk.1.1.2⟩)) hg hat);replace HL359_0:=am (Kd.V_afterv (ok:=(fun k_=>(P0_ k_∨w.heap.size≤k_)∧some k_≠(.slice (some ad358) x10_5.length co63:Value).ownBlock∧some k_≠(.slice (some ad363) t360.length co65:Value).ownBlock)) (by(with_reducible repeat(first|apply Kd.V_alloc|apply Kd.V_drewN|apply Kd.V_drew));exact Kd.V_mono HL359_0.1 (fun _ hk=>⟨⟨hk.1.1.1,⟨hk.1.2,hk.2⟩⟩,hk.1.1.2⟩)) hg hat);replace HOof:=am (Kd.R_after (ok:=(fun k_=>(w.heap.size≤k_))) (by(with_reducible repeat(first|apply Kd.R_alloc|apply Kd.R_drewN|apply Kd.R_drew));exact Kd.R_mono HOof.1 (fun _ hk=>⟨hk.1.1,hk.2⟩)) hg hat);replace HB:=am hb;have HOog:=am ho;clear HO_7;clear ho hb hg hat)|((with_reducible refine gate_builtin (b:= .append) (xs:=#[.tmp 106,.tmp 110]) rfl ?_);(try(refine gate_guard (by rfl) ?_;dsimp only));at_builtin;refine Kd.N_append k74 (w0:=w) w.heap.size rfl (.tmp 106) (.tmp 110) 75 74 (.agg #[(.slice none 0 0),(.int .i64 0)]) 32 rfl Tryz.underlying75 info74 rfl (by decide) (by omega) (.slice (some ad358) x10_5.length co63) x10_5 (⟨t360,x12_5⟩:S74) [.slice (some ad363) t360.length co65,.int .i64 x12_5] (fun k_=>(P0_ k_∨w.heap.size≤k_)∧some k_≠(v368:Value).ownBlock) (fun k_=>((fun k_=>(P0_ k_∨w.heap.size≤k_)∧some k_≠(v368:Value).ownBlock)) k_∧some k_≠(.slice (some ad358) x10_5.length co63:Value).ownBlock) rfl rfl ?aP (fun _ hk=>hk) ?aF ?aO ?aB ?aS ?aL ?_;(case aP=>exact(k74_mkF _ _ (⟨t360,x12_5⟩:S74) (Kd.R_reads' (Kd.R_mono (ok':=(fun k_=>((fun k_=>(P0_ k_∨w.heap.size≤k_)∧some k_≠(v368:Value).ownBlock)) k_∧some k_≠(.slice (some ad358) x10_5.length co63:Value).ownBlock)) (Kd.R_apart' (HOof.1) (Kd.N_typed HO_10.1) (by decide)) (fun k_ hk=>⟨⟨(.inr (hk.1.1)),hk.1.2⟩,hk.2⟩))).2.1 (Kd.R_F (Kd.R_mono (ok':=(fun k_=>((fun k_=>(P0_ k_∨w.heap.size≤k_)∧some k_≠(v368:Value).ownBlock)) k_∧some k_≠(.slice (some ad358) x10_5.length co63:Value).ownBlock)) (Kd.R_apart' (HOof.1) (Kd.N_typed HO_10.1) (by decide)) (fun k_ hk=>⟨⟨(.inr (hk.1.1)),hk.1.2⟩,hk.2⟩)))));(case aB=>exact ZB);(case aF=>exact(fun k_ hk=>⟨(.inr (Nat.le_trans zs_ hk)),Kd.fresh' (Kd.R_lt (Z1 HOog)) k_ hk⟩));(case aO=>exact(by(with_reducible repeat(first|apply Kd.N_alloc|apply Kd.N_drewN|apply Kd.N_drew));exact Kd.N_mono HO_10.1 (fun _ hk=>⟨hk.1.1,hk.2⟩)));(case aS=>exact zs_);(case aL=>have:=LMc62.out;omega);intro v371 w69 ho hb hg hat;rw[←Ny_d.1]at ho;replace HL358_0:=am (Kd.V_afterv (ok:=(fun k_=>(P0_ k_∨w.heap.size≤k_)∧some k_≠(.slice (some ad363) t360.length co65:Value).ownBlock∧some k_≠(v368:Value).ownBlock)) (by(with_reducible repeat(first|apply Kd.V_alloc|apply Kd.V_drewN|apply Kd.V_drew));exact Kd.V_mono HL358_0.1 (fun _ hk=>⟨⟨hk.1.1,⟨hk.1.2.2,hk.2⟩⟩,hk.1.2.1⟩)) hg hat);replace HL359_0:=am (Kd.V_afterv (ok:=(fun k_=>(P0_ k_∨w.heap.size≤k_)∧some k_≠(.slice (some ad363) t360.length co65:Value).ownBlock∧some k_≠(v368:Value).ownBlock)) (by(with_reducible repeat(first|apply Kd.V_alloc|apply Kd.V_drewN|apply Kd.V_drew));exact Kd.V_mono HL359_0.1 (fun _ hk=>⟨⟨hk.1.1,⟨hk.1.2.2,hk.2⟩⟩,hk.1.2.1⟩)) hg hat);replace HOog:=am (Kd.R_over' (Z1 HOog) (Kd.N_typed (Z29 HO_10)) (by decide) hg);replace HB:=am hb;have HOoh:=am ho;clear HOof HO_10;clear ho hb hg hat))
 go_roundg k5
 case measure=>have:=HJ2.1;have:=HJ10.1;have:=HK3.1;have:=HK4.1;have:=HK5.1;omega
 exact⟨(y_c),(y_d),(wrap64 (x12_5+1)),Z7,H',⟨Z49⟩,⟨(Z32 HOog)⟩,⟨(Z29 HOoh)⟩,⟨ZB⟩⟩
def slices_Min_int_int.f (l0:List Int):Option Int:=match l0 with
  |[]=>none
  |x::xs=>some (xs.foldl min x)
set_option maxHeartbeats 4000000 in
theorem slices_Min_int_int.calls (A0:Option Addr) (c0:Nat) (l0:List Int) (r:Int) (w:World) (hr0:Kd.C (Kd.int .i64) w A0 l0.length l0) (hc0:l0.length≤c0) (h:slices_Min_int_int.f l0=some r):
  Calls Tryz.prog 37 #[.slice A0 l0.length c0] w fun e w'=>e= .returned (.int .i64 r)∧Drawn0 w w':=by
 obtain⟨x,xs,rfl,hr⟩:∃x xs,l0=x::xs∧r=xs.foldl min x:=by
  cases l0 with
  |nil=>simp[slices_Min_int_int.f]at h
  |cons x xs=>exact⟨x,xs,rfl,(Option.some.inj h).symm⟩
 subst hr
 clear h
 have HR0:=am hr0
 have hmx:(x::xs).length≤9223372036854775807:=hr0.2.1
 have hst:∀kk:Nat,kk<xs.length→(xs.take (kk+1)).foldl min x=min ((xs.take kk).foldl min x) (rd (x::xs) ((kk:Int)+1)):=by
  intro kk hk
  rw[List.take_succ_eq_append_getElem hk,List.foldl_append]
  simp[rd,List.getD_eq_getElem?_getD,show((kk:Int)+1).toNat=kk+1 by omega,List.getElem?_eq_getElem hk]
 have HST:=am hst
 have hal:(xs.take xs.length).foldl min x=xs.foldl min x:=by rw[List.take_length]
 have HAL:=am hal
 obtain⟨ad0,e0,hcell0⟩:=Kd.at_int hr0 (0:Int) (by omega) (by simp only[List.length_cons];omega)
 have hx0:rd (x::xs) 0=x:=rfl
 rw[hx0]at hcell0
 replace hcell0:w.cell? ad0=some (.int .i64 x):=hcell0
 cases e0
 clear hr0 hst hal
 have hne:¬(((x::xs).length:Int)<1):=by simp only[List.length_cons];omega
 have hpos:(0:Int)<(((x::xs).length:Nat):Int):=by simp only[List.length_cons];omega
 generalize hn:(x::xs).length=n at*
 have HN:=am (show n=xs.length+1 by simpa using hn.symm)
 have hneb:decide ((n:Int)<1)=false:=decide_eq_false hne
 clear hn hx0 hc0
 go_enter Tryz.func37,Tryz.ntmps37
 go_wp2
 go_loopg [3,4] n (fun gg s3 s4 wr=>∃(ix m:Int) (kk q:Nat),Aside0 (ix=(kk:Int)+1∧m=(xs.take kk).foldl min x∧kk≤xs.length∧xs.length-kk<gg)∧s4= .int .i64 ix∧s3= .int .i64 m∧wr=w.drewN q)
 case atStart=>
  have hn':=HN.out
  exact⟨1,x,0,0,⟨(by omega),rfl,Nat.zero_le _,(by omega)⟩,rfl,rfl,rfl⟩
 obtain⟨ix,m,kk,q,hA,rfl,rfl,rfl⟩:=hrel
 by_cases hlt:kk<xs.length
 rotate_left
 ·
  obtain⟨hix,hm,hkk,hg⟩:=hA.out
  have hn':=HN.out
  have hltz:¬ix<(n:Int):=by omega
  obtain rfl:kk=xs.length:=by omega
  have HAL':=am (hm.trans HAL.out)
  clear hn' hm hix hkk hg
  go_wp2
  go_ret
  exact⟨(by rw[←HAL'.out];rfl),Z16⟩
 obtain⟨hix,hm,hkk,hg⟩:=hA.out
 have hn':=HN.out
 have hltz:ix<(n:Int):=by omega
 have hz:0≤ix:=by omega
 have hup:ix+1≤9223372036854775807:=by omega
 obtain⟨ad,e1,hcell⟩:=Kd.at_int HR0.1 ix hz hltz
 cases e1
 have hs:=am (HST.out kk hlt)
 rw[←hix,←hm]at hs
 generalize rd (x::xs) ix=y at hcell hs
 by_cases hc:y<m
 ·
  have hs':=am (hs.out.trans (show min m y=y by rw[Int.min_def];split<;>omega))
  clear hs
  clear hn' hm hix hkk hg
  go_wp2
  go_roundg (n-(kk+1))
  case measure=>
   have hn':=HN.out
   have h4:=hA.out.2.2.2
   omega
  have hn':=HN.out
  have h1:=hA.out.1
  exact⟨ix+1,_,kk+1,_,⟨(by omega),hs'.out.symm,(by omega),(by omega)⟩,Z55,rfl,rfl⟩
 have hs':=am (hs.out.trans (show min m y=m by rw[Int.min_def];split<;>omega))
 clear hs
 clear hn' hm hix hkk hg
 go_wp2
 go_roundg (n-(kk+1))
 case measure=>
  have hn':=HN.out
  have h4:=hA.out.2.2.2
  omega
 have hn':=HN.out
 have h1:=hA.out.1
 exact⟨ix+1,_,kk+1,_,⟨(by omega),hs'.out.symm,(by omega),(by omega)⟩,Z55,rfl,rfl⟩
def impl_Circle.f (l0:List S37):Option (List S37):=if l0.length<4398046511104 then some l0 else none
set_option maxHeartbeats 4000000 in
theorem impl_Circle.calls (A0:Option Addr) (c0:Nat) (l0:List S37) (r:List S37) (w:World) (hr0:Kd.C k37 w A0 l0.length l0) (hc0:l0.length≤c0) (h:impl_Circle.f l0=some r):
  Calls Tryz.prog 74 #[.slice A0 l0.length c0] w fun e w'=>∃v0_:Value,e= .returned (v0_)∧Kd.R k37 37 w' w.heap.size (fun _=>True) v0_ r∧Below w.heap.size w w':=by
 have hl:l0.length<4398046511104∧l0=r:=by
  unfold impl_Circle.f at h
  split at h
  ·
   exact⟨Z31,Option.some.inj h⟩
  cases h
 obtain⟨hl,rfl⟩:=hl
 clear h
 have HR0:=am hr0
 have hE:∀(W:World) (A:Option Addr) (n c:Nat),(binOp .eql 24 (.slice A n c) (.slice none 0 0)).run Tryz.prog W= .ok (.bool A.isNone) W:=fun W A n c=>Lib.run_eql_slice_nil W 24 37 A n c 0 0 Tryz.underlying24
 have HL:=am hl
 have hm:=hr0.2.2
 rcases A0 with _|ad
 ·
  have h0:l0=[]:=by
   rcases l0 with _|⟨x,l⟩
   ·
    rfl
   obtain⟨ad,e,_⟩:=hm (by simp)
   cases e
  subst h0
  clear hm hr0 hl
  go_enter Tryz.func74,Tryz.ntmps74
  go_wp2
  go_ret
  exact⟨_,rfl,Kd.R_nil k37 37 _ _ _,Below.refl _ _⟩
 clear hm hr0 hl
 have hKM:∀(W:World) (x:S37) (cs:List Value),k37.K W x cs→k37.M W w.heap.size (fun _=>False) x cs:=by
  intro W x cs hK
  obtain rfl:=k37_open hK
  exact k37_mkM W _ _ x
 go_enter Tryz.func74,Tryz.ntmps74
 go_wp2_with (first|((with_reducible refine gd_ 5 rfl ?_);refine Kd.R_lit k37 _ 37 ?hg (N:=5) ?hd (xs:=([]:List S37)) (inner:=[]) (ok:=fun _=>True) (okp:=fun _=>True) ?hr ?hp (fun _ hk=>hk) trivial (Below.refl _ _) (Nat.le_refl _) (by simp) ?_;(case hd=>rfl);(case hg=>rfl);(case hr=>first|(go_simp;done)|(go_simp;rfl));(case hp=>exact(Reps.none _ _));intro v1 w2 ho3 hb hg_ hnew_;clear hg_ hnew_;have HO:=am ho3;have HB:=am hb;have HRb:=am (Kd.C_below HR0.1 hb);clear ho3 hb HR0)|((with_reducible refine gate_builtin (b:= .append) (xs:=#[.tmp 5,.tmp 6]) rfl ?_);at_builtin;refine Kd.R_append_rows k37 (Rr:=k37.K w2) (w0:=w) w.heap.size rfl (.tmp 5) (.tmp 6) 24 37 (.agg #[.int .i64 0,.int .i64 0,.int .i64 0,.int .i64 0]) 32 rfl Tryz.underlying24 info37 rfl (by decide) (by decide) v1 ([]:List S37) l0 (some ad) l0.length c0 (fun _=>True) (fun _=>False) rfl rfl HO.1 HRb.1 (hKM _) (fun _ hk=>hk.elim) (fun _ _=>trivial) HB.1 HB.1.size ?aL ?_;(case aL=>have:=HL.1;simp only[List.length_nil];omega);intro v2 w3 ho hb hg hat;clear HO HB HRb hg hat;have HO:=am ho;have HB:=am hb;clear ho hb))
 go_ret
 exact⟨_,rfl,HO.1,HB.1⟩
def impl_swapCircle.l0:Nat→Int→List (S37)→List (S37)→Int→Int→Int→Int→Int→Int→Option ((List (S37))× Bool)
  |0,_,_,_,_,_,_,_,_,_=>none
  |k+1,x1,x6,x37,x38,x39,x438000,x438001,x438002,x438003=>if x39<x38 then(if 0≤x39 then(if x39<(x37.length:Int)then(impl_swapCircle.l0 k x1 x6 x37 x38 (wrap64 (x39+1)) (wrap64 (x438000+(wrap64 (2*((rd_T37 x37 x39).f0))))) (wrap64 (x438001+(wrap64 (2*((rd_T37 x37 x39).f1))))) (wrap64 (x438002+(wrap64 (2*((rd_T37 x37 x39).f2))))) (wrap64 (x438003+(wrap64 (2*((rd_T37 x37 x39).f3))))))else(none))else(none))else(if 0≤x1 then(if x1<(x6.length:Int)then((impl_Circle_numbers.f x438000 x438001 x438002 x438003).bind fun t441=>((impl_allWithin.f t441 (-1000000) 1000000).bind fun t444=>(some ((x6.set (x1:Int).toNat (⟨x438000,x438001,x438002,x438003⟩:S37)),t444))))else(none))else(none))
def impl_swapCircle.f (k:Nat) (l0:List (S37)) (a1:Int):Option ((List (S37))× Bool):=(impl_Circle.f l0).bind fun t430=>(if 0≤a1 then(if a1<(l0.length:Int)then(impl_swapCircle.l0 k a1 t430 l0 (l0.length:Int) 0 (wrap64 ((-3)*((rd_T37 l0 a1).f0))) (wrap64 ((-3)*((rd_T37 l0 a1).f1))) (wrap64 ((-3)*((rd_T37 l0 a1).f2))) (wrap64 ((-3)*((rd_T37 l0 a1).f3))))else(none))else(none))
theorem impl_swapCircle.mono_l:∀k,(∀y0 y1 y2 y3 y4 y5 y6 y7 y8,LeO (impl_swapCircle.l0 k y0 y1 y2 y3 y4 y5 y6 y7 y8) (impl_swapCircle.l0 (k+1) y0 y1 y2 y3 y4 y5 y6 y7 y8))
  |0=>fun _ _ _ _ _ _ _ _ _ r h=>by simp[impl_swapCircle.l0]at h
  |k+1=>by
    have ih0:=impl_swapCircle.mono_l k
    · intro y0 y1 y2 y3 y4 y5 y6 y7 y8
      unfold impl_swapCircle.l0
      exact mo_
theorem impl_swapCircle.mono:∀a0 a1 k,LeO (impl_swapCircle.f k a0 a1) (impl_swapCircle.f (k+1) a0 a1):=by
  intro a0 a1 k
  have ih0:=impl_swapCircle.mono_l k
  unfold impl_swapCircle.f
  exact mo_
def impl_swapCircle.T2:Bool × List (List Nat × List Nat):=(true,[([],[]),([],[]),([0,1],[0,1]),([2],[2]),([3],[3]),([4],[4]),([],[]),([],[]),([6,7],[6,7]),([8],[8]),([9],[9]),([10],[10]),([],[]),([],[]),([12,13],[12,13]),([14],[14]),([15],[15]),([16],[16]),([],[]),([],[]),([18,19],[18,19]),([20],[20]),([21],[21]),([22],[22]),([5,11,17,23],[5,11,17,23]),([],[]),([25,24,0,1,2,3,4,5,6,7,8,9,10,11,12,13,14,15,16,17,18,19,20,21,22,23,24,25],[24,25])])
def impl_swapCircle.B2:List Nat:=[0,0,3,7,15,31,0,0,192,448,960,1984,0,0,12288,28672,61440,126976,0,0,786432,1835008,3932160,8126464,16777215,0,67108863]
theorem impl_swapCircle.tab2:rtab .any (opsOf Tryz.f39 2)=impl_swapCircle.T2:=by kernel_rfl
theorem impl_swapCircle.bits2:waitsOk impl_swapCircle.T2.2 impl_swapCircle.B2=true:=by kernel_rfl
set_option maxHeartbeats 8000000 in
set_option maxRecDepth 100000 in
theorem impl_swapCircle.calls (k:Nat) (A0:Option Addr) (c0:Nat) (l0:List (S37)) (a1:Int) (r1:List (S37)) (r2:Bool) (w:World) (hr0:Kd.C k37 w A0 l0.length l0) (hc0:l0.length≤c0) (h:impl_swapCircle.f k l0 a1=some (r1,r2)):
  Calls Tryz.prog 39 #[.slice A0 l0.length c0,.int .i64 a1] w fun e w'=>∃v0_:Value,e= .returned (.tuple #[v0_,.bool r2])∧Kd.R k37 37 w' w.heap.size (fun _=>True) v0_ r1∧Below w.heap.size w w':=by
 have hu37:=Tryz.underlying37
 have HR0:=am hr0
 have HC0:=am hc0
 clear hr0 hc0
 have HB:=am (Below.refl w.heap.size w)
 have H:=h
 clear h
 unfold impl_swapCircle.f at H
 obtain⟨t430,A3,H⟩:=bs_ H
 try dsimp only at H
 obtain⟨c4,H⟩:=ip_ H
 have c4b0:=decide_eq_true c4
 clear c4
 obtain⟨c5,H⟩:=ip_ H
 have c5b0:=decide_eq_true c5
 clear c5
 have H':=am H
 clear H
 go_enter Tryz.func39,Tryz.ntmps39
 try go_wp2_with (first|((with_reducible refine gc_ 74 rfl ?_);refine gE_ (some 11) Tryz.func74 (impl_Circle.calls _ _ l0 t430 _ ?side1 ?side2 A3.1) ?_;(case side1=>exact(Z11 HR0));(case side2=>exact HC0.1);rintro v431 w6 ⟨ho0,hb⟩;have HOod:=am (Kd.R_lower ho0 zs_);replace HB:=bw_ hb;clear hb;(try clear ho0)))
 have n0_:=am (Kd.R_drew HOod.1)
 have n1_:=am (below_drew1 HB.1)
 clear HOod
 clear HB
 have HOod:=n0_
 have HB:=n1_
 clear n0_ n1_
 have p433:0≤(a1:Int):=of_decide_eq_true Z5
 have q433:a1<(l0.length:Int):=of_decide_eq_true Z5
 obtain⟨ad433,e433,hx433_0,hx433_1,hx433_2,hx433_3⟩:=at_T37 HR0.1 a1 p433 q433
 have hw433_3:=hx433_3
 have hw433_2:=hx433_2
 have hw433_1:=hx433_1
 have hw433_0:=hx433_0
 cases e433
 replace hx433_0:=(HB.1.cell (World.block_lt_of_cell? w _ hx433_0)).trans hx433_0
 replace hx433_1:=(HB.1.cell (World.block_lt_of_cell? w _ hx433_1)).trans hx433_1
 replace hx433_2:=(HB.1.cell (World.block_lt_of_cell? w _ hx433_2)).trans hx433_2
 replace hx433_3:=(HB.1.cell (World.block_lt_of_cell? w _ hx433_3)).trans hx433_3
 replace p433:=eq_true p433
 replace q433:=eq_true q433
 have p434:0≤(a1:Int):=of_decide_eq_true Z5
 have q434:a1<(l0.length:Int):=of_decide_eq_true Z5
 obtain⟨ad434,e434,hx434_0,hx434_1,hx434_2,hx434_3⟩:=at_T37 HR0.1 a1 p434 q434
 have hw434_3:=hx434_3
 have hw434_2:=hx434_2
 have hw434_1:=hx434_1
 have hw434_0:=hx434_0
 obtain rfl:ad433=ad434:=(by injection e434)
 replace hx434_0:=(HB.1.cell (World.block_lt_of_cell? w _ hx434_0)).trans hx434_0
 replace hx434_1:=(HB.1.cell (World.block_lt_of_cell? w _ hx434_1)).trans hx434_1
 replace hx434_2:=(HB.1.cell (World.block_lt_of_cell? w _ hx434_2)).trans hx434_2
 replace hx434_3:=(HB.1.cell (World.block_lt_of_cell? w _ hx434_3)).trans hx434_3
 replace p434:=eq_true p434
 replace q434:=eq_true q434
 have p435:0≤(a1:Int):=of_decide_eq_true Z5
 have q435:a1<(l0.length:Int):=of_decide_eq_true Z5
 obtain⟨ad435,e435,hx435_0,hx435_1,hx435_2,hx435_3⟩:=at_T37 HR0.1 a1 p435 q435
 have hw435_3:=hx435_3
 have hw435_2:=hx435_2
 have hw435_1:=hx435_1
 have hw435_0:=hx435_0
 obtain rfl:ad433=ad435:=(by injection e435)
 replace hx435_0:=(HB.1.cell (World.block_lt_of_cell? w _ hx435_0)).trans hx435_0
 replace hx435_1:=(HB.1.cell (World.block_lt_of_cell? w _ hx435_1)).trans hx435_1
 replace hx435_2:=(HB.1.cell (World.block_lt_of_cell? w _ hx435_2)).trans hx435_2
 replace hx435_3:=(HB.1.cell (World.block_lt_of_cell? w _ hx435_3)).trans hx435_3
 replace p435:=eq_true p435
 replace q435:=eq_true q435
 have p436:0≤(a1:Int):=of_decide_eq_true Z5
 have q436:a1<(l0.length:Int):=of_decide_eq_true Z5
 obtain⟨ad436,e436,hx436_0,hx436_1,hx436_2,hx436_3⟩:=at_T37 HR0.1 a1 p436 q436
 have hw436_3:=hx436_3
 have hw436_2:=hx436_2
 have hw436_1:=hx436_1
 have hw436_0:=hx436_0
 obtain rfl:ad433=ad436:=(by injection e436)
 replace hx436_0:=(HB.1.cell (World.block_lt_of_cell? w _ hx436_0)).trans hx436_0
 replace hx436_1:=(HB.1.cell (World.block_lt_of_cell? w _ hx436_1)).trans hx436_1
 replace hx436_2:=(HB.1.cell (World.block_lt_of_cell? w _ hx436_2)).trans hx436_2
 replace hx436_3:=(HB.1.cell (World.block_lt_of_cell? w _ hx436_3)).trans hx436_3
 replace p436:=eq_true p436
 replace q436:=eq_true q436
 refine start_ (n:=27) (S:=fun w'=>w'.cell? (ad433.add ((a1).toNat*4))=some (.int .i64 ((rd_T37 l0 a1).f0))∧w'.cell? ⟨(ad433.add ((a1).toNat*4)).block,(ad433.add ((a1).toNat*4)).off+1,none⟩=some (.int .i64 ((rd_T37 l0 a1).f1))∧w'.cell? ⟨(ad433.add ((a1).toNat*4)).block,(ad433.add ((a1).toNat*4)).off+2,none⟩=some (.int .i64 ((rd_T37 l0 a1).f2))∧w'.cell? ⟨(ad433.add ((a1).toNat*4)).block,(ad433.add ((a1).toNat*4)).off+3,none⟩=some (.int .i64 ((rd_T37 l0 a1).f3))∧w'.cell? (ad433.add ((a1).toNat*4))=some (.int .i64 ((rd_T37 l0 a1).f0))∧w'.cell? ⟨(ad433.add ((a1).toNat*4)).block,(ad433.add ((a1).toNat*4)).off+1,none⟩=some (.int .i64 ((rd_T37 l0 a1).f1))∧w'.cell? ⟨(ad433.add ((a1).toNat*4)).block,(ad433.add ((a1).toNat*4)).off+2,none⟩=some (.int .i64 ((rd_T37 l0 a1).f2))∧w'.cell? ⟨(ad433.add ((a1).toNat*4)).block,(ad433.add ((a1).toNat*4)).off+3,none⟩=some (.int .i64 ((rd_T37 l0 a1).f3))∧w'.cell? (ad433.add ((a1).toNat*4))=some (.int .i64 ((rd_T37 l0 a1).f0))∧w'.cell? ⟨(ad433.add ((a1).toNat*4)).block,(ad433.add ((a1).toNat*4)).off+1,none⟩=some (.int .i64 ((rd_T37 l0 a1).f1))∧w'.cell? ⟨(ad433.add ((a1).toNat*4)).block,(ad433.add ((a1).toNat*4)).off+2,none⟩=some (.int .i64 ((rd_T37 l0 a1).f2))∧w'.cell? ⟨(ad433.add ((a1).toNat*4)).block,(ad433.add ((a1).toNat*4)).off+3,none⟩=some (.int .i64 ((rd_T37 l0 a1).f3))∧w'.cell? (ad433.add ((a1).toNat*4))=some (.int .i64 ((rd_T37 l0 a1).f0))∧w'.cell? ⟨(ad433.add ((a1).toNat*4)).block,(ad433.add ((a1).toNat*4)).off+1,none⟩=some (.int .i64 ((rd_T37 l0 a1).f1))∧w'.cell? ⟨(ad433.add ((a1).toNat*4)).block,(ad433.add ((a1).toNat*4)).off+2,none⟩=some (.int .i64 ((rd_T37 l0 a1).f2))∧w'.cell? ⟨(ad433.add ((a1).toNat*4)).block,(ad433.add ((a1).toNat*4)).off+3,none⟩=some (.int .i64 ((rd_T37 l0 a1).f3))) (ds:=[]) #[false,false,false,false,false,false,false,false,false,false,false,false,false,false,false,false,false,false,false,false,false,false,false,false,false,false,false] Z19 rfl rfl ⟨((HB.1.cell (World.block_lt_of_cell? w _ hw433_0)).trans hw433_0),((HB.1.cell (World.block_lt_of_cell? w _ hw433_1)).trans hw433_1),((HB.1.cell (World.block_lt_of_cell? w _ hw433_2)).trans hw433_2),((HB.1.cell (World.block_lt_of_cell? w _ hw433_3)).trans hw433_3),((HB.1.cell (World.block_lt_of_cell? w _ hw434_0)).trans hw434_0),((HB.1.cell (World.block_lt_of_cell? w _ hw434_1)).trans hw434_1),((HB.1.cell (World.block_lt_of_cell? w _ hw434_2)).trans hw434_2),((HB.1.cell (World.block_lt_of_cell? w _ hw434_3)).trans hw434_3),((HB.1.cell (World.block_lt_of_cell? w _ hw435_0)).trans hw435_0),((HB.1.cell (World.block_lt_of_cell? w _ hw435_1)).trans hw435_1),((HB.1.cell (World.block_lt_of_cell? w _ hw435_2)).trans hw435_2),((HB.1.cell (World.block_lt_of_cell? w _ hw435_3)).trans hw435_3),((HB.1.cell (World.block_lt_of_cell? w _ hw436_0)).trans hw436_0),((HB.1.cell (World.block_lt_of_cell? w _ hw436_1)).trans hw436_1),((HB.1.cell (World.block_lt_of_cell? w _ hw436_2)).trans hw436_2),((HB.1.cell (World.block_lt_of_cell? w _ hw436_3)).trans hw436_3)⟩ (fun hHeld=>?_);refine with_tabW impl_swapCircle.tab2 impl_swapCircle.bits2 (fun HT_ HW_=>?_)
 generalize w6.drew=w7 at HOod HB hx433_0 hx433_1 hx433_2 hx433_3 hx434_0 hx434_1 hx434_2 hx434_3 hx435_0 hx435_1 hx435_2 hx435_3 hx436_0 hx436_1 hx436_2 hx436_3 hHeld ⊢
 refine pury_ 0 12 #[true,false,false,false,false,false,false,false,false,false,false,false,false,false,false,false,false,false,false,false,false,false,false,false,false,false,false] HT_ ?_
 refine pury_ 1 13 #[true,true,false,false,false,false,false,false,false,false,false,false,false,false,false,false,false,false,false,false,false,false,false,false,false,false,false] HT_ ?_
 refine pury_ 2 14 #[true,true,true,false,false,false,false,false,false,false,false,false,false,false,false,false,false,false,false,false,false,false,false,false,false,false,false] HT_ ?_
 refine pury_ 3 15 #[true,true,true,true,false,false,false,false,false,false,false,false,false,false,false,false,false,false,false,false,false,false,false,false,false,false,false] HT_ ?_
 refine pury_ 6 18 #[true,true,true,true,false,false,true,false,false,false,false,false,false,false,false,false,false,false,false,false,false,false,false,false,false,false,false] HT_ ?_
 refine pury_ 7 19 #[true,true,true,true,false,false,true,true,false,false,false,false,false,false,false,false,false,false,false,false,false,false,false,false,false,false,false] HT_ ?_
 refine pury_ 8 20 #[true,true,true,true,false,false,true,true,true,false,false,false,false,false,false,false,false,false,false,false,false,false,false,false,false,false,false] HT_ ?_
 refine pury_ 9 21 #[true,true,true,true,false,false,true,true,true,true,false,false,false,false,false,false,false,false,false,false,false,false,false,false,false,false,false] HT_ ?_
 refine pury_ 12 24 #[true,true,true,true,false,false,true,true,true,true,false,false,true,false,false,false,false,false,false,false,false,false,false,false,false,false,false] HT_ ?_
 refine pury_ 13 25 #[true,true,true,true,false,false,true,true,true,true,false,false,true,true,false,false,false,false,false,false,false,false,false,false,false,false,false] HT_ ?_
 refine pury_ 14 26 #[true,true,true,true,false,false,true,true,true,true,false,false,true,true,true,false,false,false,false,false,false,false,false,false,false,false,false] HT_ ?_
 refine pury_ 15 27 #[true,true,true,true,false,false,true,true,true,true,false,false,true,true,true,true,false,false,false,false,false,false,false,false,false,false,false] HT_ ?_
 refine pury_ 18 30 #[true,true,true,true,false,false,true,true,true,true,false,false,true,true,true,true,false,false,true,false,false,false,false,false,false,false,false] HT_ ?_
 refine pury_ 19 31 #[true,true,true,true,false,false,true,true,true,true,false,false,true,true,true,true,false,false,true,true,false,false,false,false,false,false,false] HT_ ?_
 refine pury_ 20 32 #[true,true,true,true,false,false,true,true,true,true,false,false,true,true,true,true,false,false,true,true,true,false,false,false,false,false,false] HT_ ?_
 refine pury_ 21 33 #[true,true,true,true,false,false,true,true,true,true,false,false,true,true,true,true,false,false,true,true,true,true,false,false,false,false,false] HT_ ?_
 refine taky16_ 4 16 #[true,true,true,true,true,false,true,true,true,true,false,false,true,true,true,true,false,false,true,true,true,true,false,false,false,false,false] HT_ HW_ hHeld ?_
 refine pury_ 5 17 #[true,true,true,true,true,true,true,true,true,true,false,false,true,true,true,true,false,false,true,true,true,true,false,false,false,false,false] HT_ ?_
 refine taky16_ 10 22 #[true,true,true,true,true,true,true,true,true,true,true,false,true,true,true,true,false,false,true,true,true,true,false,false,false,false,false] HT_ HW_ hHeld ?_
 refine pury_ 11 23 #[true,true,true,true,true,true,true,true,true,true,true,true,true,true,true,true,false,false,true,true,true,true,false,false,false,false,false] HT_ ?_
 refine taky16_ 16 28 #[true,true,true,true,true,true,true,true,true,true,true,true,true,true,true,true,true,false,true,true,true,true,false,false,false,false,false] HT_ HW_ hHeld ?_
 refine pury_ 17 29 #[true,true,true,true,true,true,true,true,true,true,true,true,true,true,true,true,true,true,true,true,true,true,false,false,false,false,false] HT_ ?_
 refine taky16_ 22 34 #[true,true,true,true,true,true,true,true,true,true,true,true,true,true,true,true,true,true,true,true,true,true,true,false,false,false,false] HT_ HW_ hHeld ?_
 refine pury_ 23 35 #[true,true,true,true,true,true,true,true,true,true,true,true,true,true,true,true,true,true,true,true,true,true,true,true,false,false,false] HT_ ?_
 refine pury_ 24 36 #[true,true,true,true,true,true,true,true,true,true,true,true,true,true,true,true,true,true,true,true,true,true,true,true,true,false,false] HT_ ?_
 refine one_ (i:=25) (N:=some 7) #[true,true,true,true,true,true,true,true,true,true,true,true,true,true,true,true,true,true,true,true,true,true,true,true,true,true,false] rfl rfl (one_of HT_.out Z19) (by decide) (fun K hK=>?_)
 refine box_step ?hg (N:=7) ?hd (cs:=#[.int .i64 0,.int .i64 0,.int .i64 0,.int .i64 0]) (t:=37) ?hr ?_;(case hd=>rfl);(case hg=>rfl);(case hr=>first|(go_simp;done)|(go_simp;rfl))
 intro gboa hg w8 hbox hb
 have n0_:=am (Kd.R_below (Kd.R_elderB (Z1 HOod) gboa (Nat.le_of_eq hg.symm)) hb)
 have n1_:=bw_ hb
 have n2_:=am (hbox)
 have n3_:=am ((by rw[hg];exact zs_:w.heap.size≤gboa))
 have n4_:=am ((by rw[hg];exact zs_:w.heap.size≤gboa))
 clear HOod
 clear HB
 have HOod:=n0_
 have HB:=n1_
 have BKoa:=n2_
 have GWoa:=n3_
 have GEoa:=n4_
 clear n0_ n1_ n2_ n3_ n4_
 clear hb hbox hg
 refine hK.out _ _ ⟨((HB.1.cell (World.block_lt_of_cell? w _ hw433_0)).trans hw433_0),((HB.1.cell (World.block_lt_of_cell? w _ hw433_1)).trans hw433_1),((HB.1.cell (World.block_lt_of_cell? w _ hw433_2)).trans hw433_2),((HB.1.cell (World.block_lt_of_cell? w _ hw433_3)).trans hw433_3),((HB.1.cell (World.block_lt_of_cell? w _ hw434_0)).trans hw434_0),((HB.1.cell (World.block_lt_of_cell? w _ hw434_1)).trans hw434_1),((HB.1.cell (World.block_lt_of_cell? w _ hw434_2)).trans hw434_2),((HB.1.cell (World.block_lt_of_cell? w _ hw434_3)).trans hw434_3),((HB.1.cell (World.block_lt_of_cell? w _ hw435_0)).trans hw435_0),((HB.1.cell (World.block_lt_of_cell? w _ hw435_1)).trans hw435_1),((HB.1.cell (World.block_lt_of_cell? w _ hw435_2)).trans hw435_2),((HB.1.cell (World.block_lt_of_cell? w _ hw435_3)).trans hw435_3),((HB.1.cell (World.block_lt_of_cell? w _ hw436_0)).trans hw436_0),((HB.1.cell (World.block_lt_of_cell? w _ hw436_1)).trans hw436_1),((HB.1.cell (World.block_lt_of_cell? w _ hw436_2)).trans hw436_2),((HB.1.cell (World.block_lt_of_cell? w _ hw436_3)).trans hw436_3)⟩ (fun hHeld=>?_)
 clear hK K
 refine norm_ (a':=?_) ?_ ?_
 rotate_left
 ·
  show Act.put _ (some 7) _=_
  simp only[Act.put,List.setIfInBounds_toArray,List.set_cons_zero,List.set_cons_succ,i64_w,i32_w]
  rfl
 refine one_ (i:=26) (N:=none) #[true,true,true,true,true,true,true,true,true,true,true,true,true,true,true,true,true,true,true,true,true,true,true,true,true,true,true] rfl rfl (one_of HT_.out Z19) (by decide) (fun K hK=>?_)
 have hs9:w8.cell? ⟨gboa,0,none⟩=some (.int .i64 0):=(blk_cell BKoa.1 0).trans rfl
 have hfs9:=blk_frozen BKoa.1 0
 have hs10:w8.cell? ⟨gboa,1,none⟩=some (.int .i64 0):=(blk_cell BKoa.1 1).trans rfl
 have hfs10:=blk_frozen BKoa.1 1
 have hs11:w8.cell? ⟨gboa,2,none⟩=some (.int .i64 0):=(blk_cell BKoa.1 2).trans rfl
 have hfs11:=blk_frozen BKoa.1 2
 have hs12:w8.cell? ⟨gboa,3,none⟩=some (.int .i64 0):=(blk_cell BKoa.1 3).trans rfl
 have hfs12:=blk_frozen BKoa.1 3
 refine skip_ (w1:=?_) (by rfl) rfl ?_ ?_
 rotate_left
 ·
  go_simp
  rfl
 refine hK.out _ _ ⟨(cf4_ hw433_0 GWoa hHeld.1),(cf4_ hw433_1 GWoa hHeld.2.1),(cf4_ hw433_2 GWoa hHeld.2.2.1),(cf4_ hw433_3 GWoa hHeld.2.2.2.1),(cf4_ hw434_0 GWoa hHeld.2.2.2.2.1),(cf4_ hw434_1 GWoa hHeld.2.2.2.2.2.1),(cf4_ hw434_2 GWoa hHeld.2.2.2.2.2.2.1),(cf4_ hw434_3 GWoa hHeld.2.2.2.2.2.2.2.1),(cf4_ hw435_0 GWoa hHeld.2.2.2.2.2.2.2.2.1),(cf4_ hw435_1 GWoa hHeld.2.2.2.2.2.2.2.2.2.1),(cf4_ hw435_2 GWoa hHeld.2.2.2.2.2.2.2.2.2.2.1),(cf4_ hw435_3 GWoa hHeld.2.2.2.2.2.2.2.2.2.2.2.1),(cf4_ hw436_0 GWoa hHeld.2.2.2.2.2.2.2.2.2.2.2.2.1),(cf4_ hw436_1 GWoa hHeld.2.2.2.2.2.2.2.2.2.2.2.2.2.1),(cf4_ hw436_2 GWoa hHeld.2.2.2.2.2.2.2.2.2.2.2.2.2.2.1),(cf4_ hw436_3 GWoa hHeld.2.2.2.2.2.2.2.2.2.2.2.2.2.2.2)⟩ (fun hHeld=>?_)
 clear hK K
 refine done_ (done_of HT_.out Z19) ?_
 try go_wp2
 go_loopg [39] k (fun kq v39 w'=>∃(x39_1:Int) (x438000_1:Int) (x438001_1:Int) (x438002_1:Int) (x438003_1:Int),v39= .int .i64 x39_1∧Aside0 (impl_swapCircle.l0 kq a1 t430 l0 (l0.length:Int) x39_1 x438000_1 x438001_1 x438002_1 x438003_1=some (r1,r2))∧Aside0 (kq≤k)∧Aside0 (Kd.R k37 37 w' w.heap.size (fun k_=>k_≠gboa) v431 t430)∧Aside0 (w'.heap[gboa]?=some (.cells #[.int .i64 x438000_1,.int .i64 x438001_1,.int .i64 x438002_1,.int .i64 x438003_1] 37 (0,0)))∧Aside0 (Below w.heap.size w w'))
 case atStart=>exact⟨(0),(wrap64 ((-3)*((rd_T37 l0 a1).f0))),(wrap64 ((-3)*((rd_T37 l0 a1).f1))),(wrap64 ((-3)*((rd_T37 l0 a1).f2))),(wrap64 ((-3)*((rd_T37 l0 a1).f3))),Z7,H',⟨Nat.le_refl _⟩,⟨(by(with_reducible repeat(first|apply Kd.R_alloc|apply Kd.R_drewN|apply Kd.R_drew));exact Kd.R_mono (Kd.R_far (p:=⟨gboa,3,none⟩) (Kd.R_far (p:=⟨gboa,2,none⟩) (Kd.R_far (p:=⟨gboa,1,none⟩) (Kd.R_far (p:=⟨gboa,0,none⟩) (Kd.R_mono HOod.1 (fun k_ hk=>(⟨hk,hk.2⟩:_∧k_≠gboa))) (fun _ hk=>hk.2) (.int .i64 (wrap64 ((-3)*((rd_T37 l0 a1).f0))))) (fun _ hk=>hk.2) (.int .i64 (wrap64 ((-3)*((rd_T37 l0 a1).f1))))) (fun _ hk=>hk.2) (.int .i64 (wrap64 ((-3)*((rd_T37 l0 a1).f2))))) (fun _ hk=>hk.2) (.int .i64 (wrap64 ((-3)*((rd_T37 l0 a1).f3))))) (fun _ hk=>hk.1.2))⟩,⟨(bb_ BKoa)⟩,⟨ZB⟩⟩
 clear H'
 obtain⟨x39_1,x438000_1,x438001_1,x438002_1,x438003_1,rfl,HA,HK1,HO_6,BKoa,HB⟩:=hrel
 obtain _|k1:=gk
 ·
  exact absurd HA.out (by simp[impl_swapCircle.l0])
 have H:=HA.out
 clear HA
 simp only[impl_swapCircle.l0]at H
 by_cases c13:x39_1<(l0.length:Int)
 ·
  rw[if_pos c13]at H
  have c13b0:=decide_eq_true c13
  clear c13
  obtain⟨c14,H⟩:=ip_ H
  have c14b0:=decide_eq_true c14
  clear c14
  obtain⟨c15,H⟩:=ip_ H
  have c15b0:=decide_eq_true c15
  clear c15
  have H':=am H
  clear H
  have p438:0≤(x39_1:Int):=of_decide_eq_true Z5
  have q438:x39_1<(l0.length:Int):=of_decide_eq_true Z5
  obtain⟨ad438,e438,hx438_0,hx438_1,hx438_2,hx438_3⟩:=at_T37 HR0.1 x39_1 p438 q438
  obtain rfl:ad433=ad438:=(by injection e438)
  replace hx438_0:=(HB.1.cell (World.block_lt_of_cell? w _ hx438_0)).trans hx438_0
  replace hx438_1:=(HB.1.cell (World.block_lt_of_cell? w _ hx438_1)).trans hx438_1
  replace hx438_2:=(HB.1.cell (World.block_lt_of_cell? w _ hx438_2)).trans hx438_2
  replace hx438_3:=(HB.1.cell (World.block_lt_of_cell? w _ hx438_3)).trans hx438_3
  replace p438:=eq_true p438
  replace q438:=eq_true q438
  go_wp2_with (first|((with_reducible refine gd_ 9 rfl ?_);refine boxN_ 9 #[.int .i64 0,.int .i64 0,.int .i64 0,.int .i64 0] 37 ?_;intro gbob hg w16 hbox hb;replace HO_6:=am (Kd.R_below (Kd.R_elderB (Z1 HO_6) gbob (Nat.le_of_eq hg.symm)) hb);have BKob:=am hbox;have GWob:=gG_ hg;have GEob:=gG_ hg;replace HB:=bw_ hb;have NBoa_ob:=nl_ BKoa hg;have NBob_oa:=ng_ BKoa hg;replace BKoa:=bk_ BKoa hb;clear hb hbox hg;have hnb17:=NBob_oa.1;have hnc17:=NBoa_ob.1;obtain⟨_,_,_,_,_,_,_,_⟩:=cz4_ BKob;obtain⟨_,_,_,_,_,_,_,_⟩:=cz4_ BKoa))
  go_roundg k1
  case measure=>have:=HK1.1;omega
  exact⟨(wrap64 (x39_1+1)),(wrap64 (x438000_1+(wrap64 (2*((rd_T37 l0 x39_1).f0))))),(wrap64 (x438001_1+(wrap64 (2*((rd_T37 l0 x39_1).f1))))),(wrap64 (x438002_1+(wrap64 (2*((rd_T37 l0 x39_1).f2))))),(wrap64 (x438003_1+(wrap64 (2*((rd_T37 l0 x39_1).f3))))),Z7,H',⟨Z34⟩,⟨(by(with_reducible repeat(first|apply Kd.R_alloc|apply Kd.R_drewN|apply Kd.R_drew));exact Kd.R_mono (Kd.R_far (p:=⟨gboa,3,none⟩) (Kd.R_far (p:=⟨gboa,2,none⟩) (Kd.R_far (p:=⟨gboa,1,none⟩) (Kd.R_far (p:=⟨gboa,0,none⟩) (Kd.R_far (p:=⟨gbob,3,none⟩) (Kd.R_far (p:=⟨gbob,2,none⟩) (Kd.R_far (p:=⟨gbob,1,none⟩) (Kd.R_far (p:=⟨gbob,0,none⟩) (Kd.R_mono (Kd.R_mono HO_6.1 (fun k_ hk=>(⟨hk,hk.2⟩:_∧k_≠gbob))) (fun k_ hk=>(⟨hk,hk.1.1⟩:_∧k_≠gboa))) (fun _ hk=>hk.1.2) (.int .i64 ((rd_T37 l0 x39_1).f0))) (fun _ hk=>hk.1.2) (.int .i64 ((rd_T37 l0 x39_1).f1))) (fun _ hk=>hk.1.2) (.int .i64 ((rd_T37 l0 x39_1).f2))) (fun _ hk=>hk.1.2) (.int .i64 ((rd_T37 l0 x39_1).f3))) (fun _ hk=>hk.2) (.int .i64 (wrap64 (x438000_1+(wrap64 (2*((rd_T37 l0 x39_1).f0))))))) (fun _ hk=>hk.2) (.int .i64 (wrap64 (x438001_1+(wrap64 (2*((rd_T37 l0 x39_1).f1))))))) (fun _ hk=>hk.2) (.int .i64 (wrap64 (x438002_1+(wrap64 (2*((rd_T37 l0 x39_1).f2))))))) (fun _ hk=>hk.2) (.int .i64 (wrap64 (x438003_1+(wrap64 (2*((rd_T37 l0 x39_1).f3))))))) (fun _ hk=>hk.1.1.1))⟩,⟨(bb_ BKoa)⟩,⟨ZB⟩⟩
 rw[if_neg c13]at H
 have c13b0:=decide_eq_false c13
 clear c13
 obtain⟨c20,H⟩:=ip_ H
 have c20b0:=decide_eq_true c20
 clear c20
 obtain⟨c21,H⟩:=ip_ H
 have c21b0:=decide_eq_true c21
 clear c21
 obtain⟨y_a,hy_a⟩:∃y_:List (S37),y_=(t430.set (a1:Int).toNat (⟨x438000_1,x438001_1,x438002_1,x438003_1⟩:S37)):=⟨_,rfl⟩
 replace H:((impl_Circle_numbers.f x438000_1 x438001_1 x438002_1 x438003_1).bind fun t441=>((impl_allWithin.f t441 (-1000000) 1000000).bind fun t444=>(some (y_a,t444))))=some (r1,r2):=Z8
 have Ny_a:=am hy_a
 clear hy_a
 obtain⟨t441,A23,H⟩:=bs_ H
 try dsimp only at H
 obtain⟨t444,A24,H⟩:=bs_ H
 try dsimp only at H
 simp only[Option.some.injEq,Prod.mk.injEq]at H
 obtain⟨rfl,rfl⟩:=H
 have hcz25_0:wr.cell? ⟨gboa,0,none⟩=some (.int .i64 x438000_1):=(blk_cell BKoa.1 0).trans rfl
 have hcz25_1:wr.cell? ⟨gboa,1,none⟩=some (.int .i64 x438001_1):=(blk_cell BKoa.1 1).trans rfl
 have hcz25_2:wr.cell? ⟨gboa,2,none⟩=some (.int .i64 x438002_1):=(blk_cell BKoa.1 2).trans rfl
 have hcz25_3:wr.cell? ⟨gboa,3,none⟩=some (.int .i64 x438003_1):=(blk_cell BKoa.1 3).trans rfl
 have hfz25_0:=blk_frozen BKoa.1 0
 have hfz25_1:=blk_frozen BKoa.1 1
 have hfz25_2:=blk_frozen BKoa.1 2
 have hfz25_3:=blk_frozen BKoa.1 3
 have p22:0≤(a1:Int):=of_decide_eq_true Z5
 have q22:(a1:Int)<((t430.length:Int):Int):=of_decide_eq_true Z5
 obtain⟨go22,co22,eo22,gboc,gl22,cl22,HG22⟩:=Kd.R_form HO_6.1 (by omega)
 (first|cases eo22|(injection eo22 with ea_ en_ ec_;(first|subst ea_|(injection ea_ with ea_;subst ea_));subst ec_;clear en_))
 have GB22:=am gboc
 have GG22:=am HG22
 clear gboc gl22 HG22
 obtain⟨ce22,hcl22,hM22,hcc22,hfr22⟩:=Kd.R_elem HO_6.1 z37 (a1:Int) p22 q22
 obtain rfl:=k37_openM hM22
 have hx22_0:wr.cell? ⟨go22,(a1:Int).toNat*4,none⟩=some (.int .i64 ((rd_T37 t430 a1).f0)):=hcc22 0 _ rfl
 have hx22_1:wr.cell? ⟨go22,(a1:Int).toNat*4+1,none⟩=some (.int .i64 ((rd_T37 t430 a1).f1)):=hcc22 1 _ rfl
 have hx22_2:wr.cell? ⟨go22,(a1:Int).toNat*4+2,none⟩=some (.int .i64 ((rd_T37 t430 a1).f2)):=hcc22 2 _ rfl
 have hx22_3:wr.cell? ⟨go22,(a1:Int).toNat*4+3,none⟩=some (.int .i64 ((rd_T37 t430 a1).f3)):=hcc22 3 _ rfl
 have hf22_0:wr.frozen? ⟨go22,(a1:Int).toNat*4,none⟩=false:=hfr22 0
 have hf22_1:wr.frozen? ⟨go22,(a1:Int).toNat*4+1,none⟩=false:=hfr22 1
 have hf22_2:wr.frozen? ⟨go22,(a1:Int).toNat*4+2,none⟩=false:=hfr22 2
 have hf22_3:wr.frozen? ⟨go22,(a1:Int).toNat*4+3,none⟩=false:=hfr22 3
 (try clear hcl22);(try clear hcc22);(try clear hfr22);(try clear hM22)
 replace p22:=eq_true p22
 replace q22:=eq_true q22
 have HX26:=am (show Kd.R k37 37 wr w.heap.size (fun k_=>k_≠gboa) (.slice (some ⟨go22,0,none⟩) t430.length co22) t430 from(Z1 HO_6))
 obtain⟨ce26,hcl26,hM26,hcc26,hfr26⟩:=Kd.R_elem HX26.out z37 (a1:Int) (of_decide_eq_true Z5) (by have h_:(a1:Int)<((t430.length:Int):Int):=of_decide_eq_true Z5;first|exact h_|(have e_:=(Kd.R_reads' HO_6.1).1;omega)|simpa using h_)
 obtain rfl:=k37_openM hM26
 have HP26:=Kd.R_seg HX26.out (a1:Int) (of_decide_eq_true Z5) (by have h_:(a1:Int)<((t430.length:Int):Int):=of_decide_eq_true Z5;first|exact h_|(have e_:=(Kd.R_reads' HO_6.1).1;omega)|simpa using h_) (seg:=[.int .i64 x438000_1,.int .i64 x438001_1,.int .i64 x438002_1,.int .i64 x438003_1]) (j:=0) hcl26 hcc26 (show 4≤4 from by decide) (x':=(⟨x438000_1,x438001_1,x438002_1,x438003_1⟩:S37)) (k37_mkM _ _ _ (⟨x438000_1,x438001_1,x438002_1,x438003_1⟩:S37)) (fun _ hk=>hk)
 have hx26_0:=hcc26 0 _ rfl
 (try simp only[show(k37).sz=4 from rfl,Nat.mul_one,Nat.add_zero]at hx26_0)
 have hf26_0:=hfr26 0
 (try simp only[show(k37).sz=4 from rfl,Nat.mul_one,Nat.add_zero]at hf26_0)
 have hx26_1:=hcc26 1 _ rfl
 (try simp only[show(k37).sz=4 from rfl,Nat.mul_one,Nat.add_zero]at hx26_1)
 have hf26_1:=hfr26 1
 (try simp only[show(k37).sz=4 from rfl,Nat.mul_one,Nat.add_zero]at hf26_1)
 have hx26_2:=hcc26 2 _ rfl
 (try simp only[show(k37).sz=4 from rfl,Nat.mul_one,Nat.add_zero]at hx26_2)
 have hf26_2:=hfr26 2
 (try simp only[show(k37).sz=4 from rfl,Nat.mul_one,Nat.add_zero]at hf26_2)
 have hx26_3:=hcc26 3 _ rfl
 (try simp only[show(k37).sz=4 from rfl,Nat.mul_one,Nat.add_zero]at hx26_3)
 have hf26_3:=hfr26 3
 (try simp only[show(k37).sz=4 from rfl,Nat.mul_one,Nat.add_zero]at hf26_3)
 (try clear hcl26);(try clear hcc26);(try clear hfr26);(try clear hM26)
 go_wp2_with (first|((with_reducible refine gate_store (t:=37) (p:=72) rfl ?_);refine store_event (t:=37) (p:=72) (v:=?vo_w27) (w1:=((((wr.setCell ⟨go22,(a1:Int).toNat*4,none⟩ (.int .i64 x438000_1)).setCell ⟨go22,(a1:Int).toNat*4+1,none⟩ (.int .i64 x438001_1)).setCell ⟨go22,(a1:Int).toNat*4+2,none⟩ (.int .i64 x438002_1)).setCell ⟨go22,(a1:Int).toNat*4+3,none⟩ (.int .i64 x438003_1))) ?hg ?ho ?hn ?hr ?_;(case ho=>rfl);(case hg=>rfl);(case hn=>rfl);(case hr=>first|(go_simp;done)|(go_simp;rfl));intro w27 hw;have hg:wr.grownBy w27 (some go22):=(by rw[hw];exact HP26.2);have hp_:Kd.R k37 37 w27 w.heap.size (fun k_=>k_≠gboa) (.slice (some ⟨go22,0,none⟩) t430.length co22) y_a:=(by rw[hw,Ny_a.1];exact HP26.1);clear HP26;replace BKoa:=am (blk_grown (bb_ BKoa) hg (Kd.R_away HO_6.1 (fun _ hk=>hk)));replace HO_6:=am hp_;replace HB:=am ((by rw[hw];exact below_set (below_set (below_set (below_set (HB.1) GB22.out) GB22.out) GB22.out) GB22.out:Below w.heap.size w w27));clear hg hw hp_;obtain⟨_,_,_,_,_,_,_,_⟩:=cz4_ BKoa)|((with_reducible refine gc_ 52 rfl ?_);refine gE_ (some 75) Tryz.func52 (impl_Circle_numbers.calls x438000_1 x438001_1 x438002_1 x438003_1 t441 _ A23.1) ?_;rintro v442 w29 ⟨ho0,hb⟩;replace HO_6:=am (Kd.R_below (Z1 HO_6) hb);have HOoe:=am (Kd.R_lower ho0 zs_);replace BKoa:=bk_ BKoa hb;replace HB:=bw_ hb;clear hb;(try clear ho0);obtain⟨Ao30,co30,eo30⟩:=Kd.R_slice HOoe.1;subst eo30)|((with_reducible refine gc_ 51 rfl ?_);refine gM_ (some 76) Tryz.func51 (impl_allWithin.calls _ _ t441 (-1000000) 1000000 t444 _ ?side1 ?side2 A24.1) ?_;(case side1=>exact(Z10 HOoe));(case side2=>exact(Kd.R_reads' HOoe.1).2.1);intro w31 hb;replace HO_6:=am (Kd.R_below (Z1 HO_6) hb);replace HOoe:=am (Kd.R_below (Z1 HOoe) hb);replace BKoa:=bk_ BKoa hb;replace HB:=bw_ hb;clear hb))
 go_ret2
 exact⟨_,Z6,(Z20 HO_6),ZB⟩
end Go.Proofs.YtmpofeilljmmiaaGreatDoor.P
