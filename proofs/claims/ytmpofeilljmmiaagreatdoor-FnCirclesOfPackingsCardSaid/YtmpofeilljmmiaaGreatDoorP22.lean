/- Lean functions with the answers of Go functions that the statement reaches, and the proofs that the calls come to them; conditions: none but the arguments' kinds. -/
import Derived.Test.YtmpofeilljmmiaaGreatDoorP0
namespace Go.Proofs.YtmpofeilljmmiaaGreatDoor.P
open Go.RowKit Go.Proofs.YtmpofeilljmmiaaGreatDoorW.PrintWords Go.Proofs.YtmpofeilljmmiaaGreatDoorW.PrintLast Go.Proofs.YtmpofeilljmmiaaGreatDoorW.PrintMore
attribute [local go_sem] max2_int min2_int max_two min_two max_three min_three max_four min_four
set_option linter.unusedVariables false
set_option linter.unusedSimpArgs false
theorem eqA37 (d:Nat) (w:World) (x0 y0:Int) (x1 y1:Int) (x2 y2:Int) (x3 y3:Int):
    (Op.equalIn (d+2) 37 (.agg #[.int .i64 x0,.int .i64 x1,.int .i64 x2,.int .i64 x3]) (.agg #[.int .i64 y0,.int .i64 y1,.int .i64 y2,.int .i64 y3])).run Tryz.prog w= .ok (x0==y0&&(x1==y1&&(x2==y2&&(x3==y3)))) w:=by
  refine eqA_of Tryz.underlying37 Z19 ?_
  refine eqf_cons (by rfl) (by go_simp;rfl) (by go_simp;rfl) (by go_simp) ?_
  refine eqf_cons (by rfl) (by go_simp;rfl) (by go_simp;rfl) (by go_simp) ?_
  refine eqf_cons (by rfl) (by go_simp;rfl) (by go_simp;rfl) (by go_simp) ?_
  exact eqf_last (by rfl) (by go_simp;rfl) (by go_simp;rfl) (by go_simp)
def impl_twice.f (a0_0:Int) (a0_1:Int) (a0_2:Int) (a0_3:Int) (a1_0:Int) (a1_1:Int) (a1_2:Int) (a1_3:Int):Option (Int):=some (wrap64 ((wrap64 ((wrap64 ((wrap64 ((wrap64 (2*a0_2))*a1_2))+(wrap64 ((wrap64 (2*a0_3))*a1_3))))-(wrap64 (a0_0*a1_1))))-(wrap64 (a0_1*a1_0))))
set_option maxHeartbeats 8000000 in
set_option maxRecDepth 100000 in
theorem impl_twice.calls (a0_0:Int) (a0_1:Int) (a0_2:Int) (a0_3:Int) (a1_0:Int) (a1_1:Int) (a1_2:Int) (a1_3:Int) (r:Int) (w:World) (h:impl_twice.f a0_0 a0_1 a0_2 a0_3 a1_0 a1_1 a1_2 a1_3=some r):
  Calls Tryz.prog 54 #[.agg #[.int .i64 a0_0,.int .i64 a0_1,.int .i64 a0_2,.int .i64 a0_3],.agg #[.int .i64 a1_0,.int .i64 a1_1,.int .i64 a1_2,.int .i64 a1_3]] w fun e w'=>e= .returned (.int .i64 r)∧Below w.heap.size w w':=by
 have hu37:=Tryz.underlying37
 have HB:=am (Below.refl w.heap.size w)
 have H:=h
 clear h
 unfold impl_twice.f at H
 obtain rfl:=Option.some.inj H
 go_enter Tryz.func54,Tryz.ntmps54
 go_wp2_with (first|((with_reducible refine gd_ 2 rfl ?_);refine boxN_ 2 #[.int .i64 a0_0,.int .i64 a0_1,.int .i64 a0_2,.int .i64 a0_3] 37 ?_;intro gboa hg w3 hbox hb;have BKoa:=am hbox;have GWoa:=gG_ hg;have GEoa:=gG_ hg;replace HB:=bw_ hb;clear hb hbox hg)|((with_reducible refine gd_ 3 rfl ?_);refine boxN_ 3 #[.int .i64 a1_0,.int .i64 a1_1,.int .i64 a1_2,.int .i64 a1_3] 37 ?_;intro gbob hg w4 hbox hb;have BKob:=am hbox;have GWob:=gG_ hg;have GEob:=gG_ hg;replace HB:=bw_ hb;have NBoa_ob:=nl_ BKoa hg;have NBob_oa:=ng_ BKoa hg;replace BKoa:=bk_ BKoa hb;clear hb hbox hg;have hnb5:=NBoa_ob.1;have hnc5:=NBob_oa.1;obtain⟨_,_,_,_,_,_,_,_⟩:=cz4_ BKoa;obtain⟨_,_,_,_,_,_,_,_⟩:=cz4_ BKob))
 go_ret
 exact⟨Z6,ZB⟩
mutual
def impl_touching.l0:Nat→List (S37)→List (List Int)→List (S37)→Int→Int→Option ((List (List Int)))
  |0,_,_,_,_,_=>none
  |k+1,x0,x3,x8,x9,x10=>if x10<x9 then(if 0≤x10 then(if x10<(x8.length:Int)then(impl_touching.l1 k x0 x3 x10 (wrap64 (x10+1)) x8 x9 x10 ((rd_T37 x8 x10).f0) ((rd_T37 x8 x10).f1) ((rd_T37 x8 x10).f2) ((rd_T37 x8 x10).f3))else(none))else(none))else(some x3)
def impl_touching.l1:Nat→List (S37)→List (List Int)→Int→Int→List (S37)→Int→Int→Int→Int→Int→Int→Option ((List (List Int)))
  |0,_,_,_,_,_,_,_,_,_,_,_=>none
  |k+1,x0,x3,x4,x6,x8,x9,x10,x380000,x380001,x380002,x380003=>if x6<(x0.length:Int)then(if 0≤x6 then((impl_twice.f x380000 x380001 x380002 x380003 ((rd_T37 x0 x6).f0) ((rd_T37 x0 x6).f1) ((rd_T37 x0 x6).f2) ((rd_T37 x0 x6).f3)).bind fun t381=>(if t381=(-2)then(if x3.length<5864062014805 then(impl_touching.l1 k x0 (x3++[(([x4,x6]:List Int))]) x4 (wrap64 (x6+1)) x8 x9 x10 x380000 x380001 x380002 x380003)else(none))else(impl_touching.l1 k x0 x3 x4 (wrap64 (x6+1)) x8 x9 x10 x380000 x380001 x380002 x380003)))else(none))else(impl_touching.l0 k x0 x3 x8 x9 (wrap64 (x10+1)))
end
def impl_touching.f (k:Nat) (l0:List (S37)):Option ((List (List Int))):=impl_touching.l0 k l0 (([]:List (List Int))) l0 (l0.length:Int) 0
theorem impl_touching.mono_l:∀k,(∀y0 y1 y2 y3 y4,LeO (impl_touching.l0 k y0 y1 y2 y3 y4) (impl_touching.l0 (k+1) y0 y1 y2 y3 y4))∧(∀y0 y1 y2 y3 y4 y5 y6 y7 y8 y9 y10,LeO (impl_touching.l1 k y0 y1 y2 y3 y4 y5 y6 y7 y8 y9 y10) (impl_touching.l1 (k+1) y0 y1 y2 y3 y4 y5 y6 y7 y8 y9 y10))
  |0=>⟨fun _ _ _ _ _ r h=>by simp[impl_touching.l0]at h,fun _ _ _ _ _ _ _ _ _ _ _ r h=>by simp[impl_touching.l1]at h⟩
  |k+1=>by
    obtain⟨ih0,ih1⟩:=impl_touching.mono_l k
    refine⟨?_,?_⟩
    · intro y0 y1 y2 y3 y4
      unfold impl_touching.l0
      exact mo_
    · intro y0 y1 y2 y3 y4 y5 y6 y7 y8 y9 y10
      unfold impl_touching.l1
      exact mo_
theorem impl_touching.mono:∀a0 k,LeO (impl_touching.f k a0) (impl_touching.f (k+1) a0):=by
  intro a0 k
  obtain⟨ih0,ih1⟩:=impl_touching.mono_l k
  unfold impl_touching.f
  exact mo_
set_option maxHeartbeats 8000000 in
set_option maxRecDepth 100000 in
theorem impl_touching.calls (k:Nat) (A0:Option Addr) (c0:Nat) (l0:List (S37)) (r:List (List Int)) (w:World) (hr0:Kd.C k37 w A0 l0.length l0) (hc0:l0.length≤c0) (h:impl_touching.f k l0=some r):
  Calls Tryz.prog 57 #[.slice A0 l0.length c0] w fun e w'=>∃v0_:Value,e= .returned (v0_)∧Kd.S (Kd.slice 3 (Kd.int .i64)) 30 w' w.heap.size (fun _=>True) v0_ r∧Below w.heap.size w w':=by
 have hu37:=Tryz.underlying37
 have HR0:=am hr0
 have HC0:=am hc0
 clear hr0 hc0
 have HB:=am (Below.refl w.heap.size w)
 have H:=h
 clear h
 unfold impl_touching.f at H
 obtain⟨y_a,hy_a⟩:∃y_:List (List Int),y_=(([]:List (List Int))):=⟨_,rfl⟩
 replace H:(impl_touching.l0 k l0 y_a l0 (l0.length:Int) 0)=some r:=Z8
 have Ny_a:=am hy_a
 clear hy_a
 have H':=am H
 clear H
 go_enter Tryz.func57,Tryz.ntmps57
 go_wp2_with (first|((with_reducible refine gd_ 7 rfl ?_);refine Kd.S_lit (Kd.slice 3 (Kd.int .i64)) _ 30 ?hg (N:=7) ?hd (xs:=([]:List (List Int))) (inner:=[]) (ok:=fun _=>True) (okp:=fun _=>True) ?hr ?hp (fun _ hk=>hk) trivial (Below.refl _ _) (Nat.le_refl _) (by simp) ?_;(case hd=>rfl);(case hg=>rfl);(case hr=>first|(go_simp;done)|(go_simp;rfl));(case hp=>exact(Reps.none _ _));intro v376 w2 ho3 hb hg_ hnew_;clear hg_ hnew_;(first|rw[←Ny_a.1]at ho3|(simp only[Int.reduceToNat]at ho3;rw[←Ny_a.1]at ho3));have HOob:=am (Kd.S_lower ho3 zs_);replace HB:=bw_ hb;clear hb ho3))
 go_loopg [3,10] k (fun kq v3 v10 w'=>∃(x3_1:List (List Int)) (x10_1:Int),v10= .int .i64 x10_1∧Aside0 (impl_touching.l0 kq l0 x3_1 l0 (l0.length:Int) x10_1=some r)∧Aside0 (kq≤k)∧Aside0 (Kd.S (Kd.slice 3 (Kd.int .i64)) 30 w' w.heap.size (fun _=>True) v3 x3_1)∧Aside0 (Below w.heap.size w w'))
 case atStart=>exact⟨(y_a),(0),Z7,H',⟨Nat.le_refl _⟩,⟨(Z12 HOob)⟩,⟨ZB⟩⟩
 clear H'
 obtain⟨x3_1,x10_1,rfl,HA,HK1,HO_3,HB⟩:=hrel
 obtain _|k1:=gk
 ·
  exact absurd HA.out (by simp[impl_touching.l0])
 have H:=HA.out
 clear HA
 simp only[impl_touching.l0]at H
 by_cases c4:x10_1<(l0.length:Int)
 rotate_left
 ·
  rw[if_neg c4]at H
  have c4b0:=decide_eq_false c4
  clear c4
  obtain rfl:=Option.some.inj H
  go_wp2
  go_ret
  exact⟨_,Z6,(Z12 HO_3),ZB⟩
 rw[if_pos c4]at H
 have c4b0:=decide_eq_true c4
 clear c4
 obtain⟨c5,H⟩:=ip_ H
 have c5b0:=decide_eq_true c5
 clear c5
 obtain⟨c6,H⟩:=ip_ H
 have c6b0:=decide_eq_true c6
 clear c6
 have H':=am H
 clear H
 have p378:0≤(x10_1:Int):=of_decide_eq_true Z5
 have q378:x10_1<(l0.length:Int):=of_decide_eq_true Z5
 obtain⟨ad378,e378,hx378_0,hx378_1,hx378_2,hx378_3⟩:=at_T37 HR0.1 x10_1 p378 q378
 cases e378
 replace hx378_0:=(HB.1.cell (World.block_lt_of_cell? w _ hx378_0)).trans hx378_0
 replace hx378_1:=(HB.1.cell (World.block_lt_of_cell? w _ hx378_1)).trans hx378_1
 replace hx378_2:=(HB.1.cell (World.block_lt_of_cell? w _ hx378_2)).trans hx378_2
 replace hx378_3:=(HB.1.cell (World.block_lt_of_cell? w _ hx378_3)).trans hx378_3
 replace p378:=eq_true p378
 replace q378:=eq_true q378
 go_wp2_with (first|((with_reducible refine gd_ 5 rfl ?_);refine boxN_ 5 #[.int .i64 0,.int .i64 0,.int .i64 0,.int .i64 0] 37 ?_;intro gboa hg w7 hbox hb;replace HO_3:=am (Kd.S_below (Z12 HO_3) hb);have BKoa:=am hbox;have GWoa:=gG_ hg;have GEoa:=gG_ hg;replace HB:=bw_ hb;clear hb hbox hg;obtain⟨_,_,_,_,_,_,_,_⟩:=cz4_ BKoa))
 go_loopg [3,6] k1 (fun kq v3 v6 w'=>∃(x3_2:List (List Int)) (x6_2:Int),v6= .int .i64 x6_2∧Aside0 (impl_touching.l1 kq l0 x3_2 x10_1 x6_2 l0 (l0.length:Int) x10_1 ((rd_T37 l0 x10_1).f0) ((rd_T37 l0 x10_1).f1) ((rd_T37 l0 x10_1).f2) ((rd_T37 l0 x10_1).f3)=some r)∧Aside0 (kq≤k1)∧Aside0 (Kd.S (Kd.slice 3 (Kd.int .i64)) 30 w' w.heap.size (fun _=>True) v3 x3_2)∧Aside0 (w'.heap[gboa]?=some (.cells #[.int .i64 ((rd_T37 l0 x10_1).f0),.int .i64 ((rd_T37 l0 x10_1).f1),.int .i64 ((rd_T37 l0 x10_1).f2),.int .i64 ((rd_T37 l0 x10_1).f3)] 37 (0,0)))∧Aside0 (Below w.heap.size w w'))
 case atStart=>exact⟨(x3_1),(wrap64 (x10_1+1)),Z7,H',⟨Nat.le_refl _⟩,⟨(by(with_reducible repeat(first|apply Kd.S_alloc|apply Kd.S_drewN|apply Kd.S_drew));exact Kd.S_mono (Kd.S_far (p:=⟨gboa,3,none⟩) (Kd.S_far (p:=⟨gboa,2,none⟩) (Kd.S_far (p:=⟨gboa,1,none⟩) (Kd.S_far (p:=⟨gboa,0,none⟩) (Kd.S_types HO_3.1 BKoa.1 (by decide)) (fun _ hk=>hk.2) (.int .i64 ((rd_T37 l0 x10_1).f0))) (fun _ hk=>hk.2) (.int .i64 ((rd_T37 l0 x10_1).f1))) (fun _ hk=>hk.2) (.int .i64 ((rd_T37 l0 x10_1).f2))) (fun _ hk=>hk.2) (.int .i64 ((rd_T37 l0 x10_1).f3))) (fun _ hk=>trivial))⟩,⟨(bb_ BKoa)⟩,⟨ZB⟩⟩
 clear H'
 obtain⟨x3_2,x6_2,rfl,HA,HK2,HO_3,BKoa,HB⟩:=hrel
 obtain _|k2:=gk
 ·
  exact absurd HA.out (by simp[impl_touching.l1])
 have H:=HA.out
 clear HA
 simp only[impl_touching.l1]at H
 by_cases c9:x6_2<(l0.length:Int)
 rotate_left
 ·
  rw[if_neg c9]at H
  have c9b0:=decide_eq_false c9
  clear c9
  have H':=am H
  clear H
  go_wp2
  go_roundg k2
  case measure=>have:=HK1.1;have:=HK2.1;omega
  exact⟨(x3_2),(wrap64 (x10_1+1)),Z7,H',⟨Z45⟩,⟨(Z12 HO_3)⟩,⟨ZB⟩⟩
 rw[if_pos c9]at H
 have c9b0:=decide_eq_true c9
 clear c9
 obtain⟨c10,H⟩:=ip_ H
 have c10b0:=decide_eq_true c10
 clear c10
 obtain⟨t381,A11,H⟩:=bs_ H
 try dsimp only at H
 by_cases c12:t381=(-2)
 rotate_left
 ·
  rw[if_neg c12]at H
  obtain⟨c12b0,c12b1⟩:=ne2_ c12
  have H':=am H
  clear H
  try go_wp2
  have n0_:=am (Kd.S_drew HO_3.1)
  have n1_:=am (blk_drew BKoa.1)
  have n2_:=am (below_drew1 HB.1)
  clear HO_3
  clear BKoa
  clear HB
  have HO_3:=n0_
  have BKoa:=n1_
  have HB:=n2_
  clear n0_ n1_ n2_
  have p380:0≤(x6_2:Int):=of_decide_eq_true Z5
  have q380:x6_2<(l0.length:Int):=of_decide_eq_true Z5
  obtain⟨ad380,e380,hx380_0,hx380_1,hx380_2,hx380_3⟩:=at_T37 HR0.1 x6_2 p380 q380
  have hw380_3:=hx380_3
  have hw380_2:=hx380_2
  have hw380_1:=hx380_1
  have hw380_0:=hx380_0
  obtain rfl:ad378=ad380:=(by injection e380)
  replace hx380_0:=(HB.1.cell (World.block_lt_of_cell? w _ hx380_0)).trans hx380_0
  replace hx380_1:=(HB.1.cell (World.block_lt_of_cell? w _ hx380_1)).trans hx380_1
  replace hx380_2:=(HB.1.cell (World.block_lt_of_cell? w _ hx380_2)).trans hx380_2
  replace hx380_3:=(HB.1.cell (World.block_lt_of_cell? w _ hx380_3)).trans hx380_3
  replace p380:=eq_true p380
  replace q380:=eq_true q380
  refine start_ (n:=7) (S:=fun w'=>w'.cell? ⟨gboa,0,none⟩=some (.int .i64 ((rd_T37 l0 x10_1).f0))∧w'.cell? ⟨gboa,1,none⟩=some (.int .i64 ((rd_T37 l0 x10_1).f1))∧w'.cell? ⟨gboa,2,none⟩=some (.int .i64 ((rd_T37 l0 x10_1).f2))∧w'.cell? ⟨gboa,3,none⟩=some (.int .i64 ((rd_T37 l0 x10_1).f3))∧w'.cell? (ad378.add ((x6_2).toNat*4))=some (.int .i64 ((rd_T37 l0 x6_2).f0))∧w'.cell? ⟨(ad378.add ((x6_2).toNat*4)).block,(ad378.add ((x6_2).toNat*4)).off+1,none⟩=some (.int .i64 ((rd_T37 l0 x6_2).f1))∧w'.cell? ⟨(ad378.add ((x6_2).toNat*4)).block,(ad378.add ((x6_2).toNat*4)).off+2,none⟩=some (.int .i64 ((rd_T37 l0 x6_2).f2))∧w'.cell? ⟨(ad378.add ((x6_2).toNat*4)).block,(ad378.add ((x6_2).toNat*4)).off+3,none⟩=some (.int .i64 ((rd_T37 l0 x6_2).f3))) (ds:=[]) M5 Z19 rfl rfl ⟨(blk_cell BKoa.1 0).trans rfl,(blk_cell BKoa.1 1).trans rfl,(blk_cell BKoa.1 2).trans rfl,(blk_cell BKoa.1 3).trans rfl,((HB.1.cell (World.block_lt_of_cell? w _ hw380_0)).trans hw380_0),((HB.1.cell (World.block_lt_of_cell? w _ hw380_1)).trans hw380_1),((HB.1.cell (World.block_lt_of_cell? w _ hw380_2)).trans hw380_2),((HB.1.cell (World.block_lt_of_cell? w _ hw380_3)).trans hw380_3)⟩ (fun hHeld=>?_)
  generalize wr.drew=w20 at HO_3 BKoa HB hx380_0 hx380_1 hx380_2 hx380_3 hHeld ⊢
  refine pure_ (i:=1) (N:=some 24) (v:=?_) (a':=?_) M6 rfl rfl Z19 (fun _ _ _ h=>h) (Or.inl ⟨(by rfl),?_⟩) ?_ ?_
  rotate_left
  ·
   intro w'
   go_simp
   with_reducible rfl
  rotate_left
  ·
   simp only[Act.put,List.setIfInBounds_toArray,List.set_cons_zero,List.set_cons_succ,i64_w,i32_w]
   rfl
  refine pure_ (i:=2) (N:=some 25) (v:=?_) (a':=?_) M7 rfl rfl Z19 (fun _ _ _ h=>h) (Or.inl ⟨(by rfl),?_⟩) ?_ ?_
  rotate_left
  ·
   intro w'
   go_simp
   with_reducible rfl
  rotate_left
  ·
   simp only[Act.put,List.setIfInBounds_toArray,List.set_cons_zero,List.set_cons_succ,i64_w,i32_w]
   rfl
  refine pure_ (i:=3) (N:=some 26) (v:=?_) (a':=?_) M8 rfl rfl Z19 (fun _ _ _ h=>h) (Or.inl ⟨(by rfl),?_⟩) ?_ ?_
  rotate_left
  ·
   intro w'
   go_simp
   with_reducible rfl
  rotate_left
  ·
   simp only[Act.put,List.setIfInBounds_toArray,List.set_cons_zero,List.set_cons_succ,i64_w,i32_w]
   rfl
  refine take_ (i:=0) (N:=some 23) (v:=?_) (a':=?_) M37 rfl rfl Z19 (fun _ _ _ h=>h) (Or.inl ⟨(by rfl),?_⟩) hHeld ?_ ?_
  rotate_left
  ·
   rintro w' ⟨s0,s1,s2,s3,s4,s5,s6,s7⟩
   go_simp
   with_reducible rfl
  rotate_left
  ·
   simp only[Act.put,List.setIfInBounds_toArray,List.set_cons_zero,List.set_cons_succ,i64_w,i32_w]
   rfl
  refine take_ (i:=4) (N:=some 27) (v:=?_) (a':=?_) M39 rfl rfl Z19 (fun _ _ _ h=>h) (Or.inl ⟨(by rfl),?_⟩) hHeld ?_ ?_
  rotate_left
  ·
   rintro w' ⟨s0,s1,s2,s3,s4,s5,s6,s7⟩
   go_simp
   with_reducible rfl
  rotate_left
  ·
   simp only[Act.put,List.setIfInBounds_toArray,List.set_cons_zero,List.set_cons_succ,i64_w,i32_w]
   rfl
  refine one_ (i:=5) (N:=some 28) M42 rfl rfl Z19 (by decide) (fun K hK=>?_)
  refine goes_ Tryz.func54 Z19 rfl #[.agg #[.int .i64 ((rd_T37 l0 x10_1).f0),.int .i64 ((rd_T37 l0 x10_1).f1),.int .i64 ((rd_T37 l0 x10_1).f2),.int .i64 ((rd_T37 l0 x10_1).f3)],.agg #[.int .i64 ((rd_T37 l0 x6_2).f0),.int .i64 ((rd_T37 l0 x6_2).f1),.int .i64 ((rd_T37 l0 x6_2).f2),.int .i64 ((rd_T37 l0 x6_2).f3)]] (by rfl) rfl rfl Z18 ?_
  with_reducible refine(impl_twice.calls ((rd_T37 l0 x10_1).f0) ((rd_T37 l0 x10_1).f1) ((rd_T37 l0 x10_1).f2) ((rd_T37 l0 x10_1).f3) ((rd_T37 l0 x6_2).f0) ((rd_T37 l0 x6_2).f1) ((rd_T37 l0 x6_2).f2) ((rd_T37 l0 x6_2).f3) t381 _ A11.1).mono ?_
  rintro e w21 ⟨rfl,hb⟩
  refine⟨_,rfl,?_⟩
  have n0_:=am (Kd.S_below (Z12 HO_3) hb)
  have n1_:=bk_ BKoa hb
  have n2_:=bw_ hb
  clear HO_3
  clear BKoa
  clear HB
  have HO_3:=n0_
  have BKoa:=n1_
  have HB:=n2_
  clear n0_ n1_ n2_
  (try clear hb)
  (try clear hb2)
  (try clear hk)
  (try clear hi)
  refine hK.out _ _ ⟨(blk_cell BKoa.1 0).trans rfl,(blk_cell BKoa.1 1).trans rfl,(blk_cell BKoa.1 2).trans rfl,(blk_cell BKoa.1 3).trans rfl,((HB.1.cell (World.block_lt_of_cell? w _ hw380_0)).trans hw380_0),((HB.1.cell (World.block_lt_of_cell? w _ hw380_1)).trans hw380_1),((HB.1.cell (World.block_lt_of_cell? w _ hw380_2)).trans hw380_2),((HB.1.cell (World.block_lt_of_cell? w _ hw380_3)).trans hw380_3)⟩ (fun hHeld=>?_)
  clear hK K
  refine norm_ (a':=?_) ?_ ?_
  rotate_left
  ·
   show Act.put _ (some 28) _=_
   simp only[Act.put,List.setIfInBounds_toArray,List.set_cons_zero,List.set_cons_succ,i64_w,i32_w]
   rfl
  refine pure_ (i:=6) (N:=some 29) (v:=?_) (a':=?_) M69 rfl rfl Z19 (fun _ _ _ h=>h) (Or.inl ⟨(by rfl),?_⟩) ?_ ?_
  rotate_left
  ·
   intro w'
   go_simp
   with_reducible rfl
  rotate_left
  ·
   simp only[Act.put,List.setIfInBounds_toArray,List.set_cons_zero,List.set_cons_succ,i64_w,i32_w]
   rfl
  refine done_ Z19 ?_
  try go_wp2
  go_roundg k2
  case measure=>have:=HK1.1;have:=HK2.1;omega
  exact⟨(x3_2),(wrap64 (x6_2+1)),Z7,H',⟨Z45⟩,⟨(Z12 HO_3)⟩,⟨(bb_ BKoa)⟩,⟨ZB⟩⟩
 rw[if_pos c12]at H
 obtain⟨c12b0,c12b1⟩:=eq2_ c12
 clear c12
 obtain⟨y_b,hy_b⟩:∃y_:List Int,y_=(([x10_1,x6_2]:List Int)):=⟨_,rfl⟩
 replace H:(if x3_2.length<5864062014805 then(impl_touching.l1 k2 l0 (x3_2++[y_b]) x10_1 (wrap64 (x6_2+1)) l0 (l0.length:Int) x10_1 ((rd_T37 l0 x10_1).f0) ((rd_T37 l0 x10_1).f1) ((rd_T37 l0 x10_1).f2) ((rd_T37 l0 x10_1).f3))else(none))=some r:=Z14
 have Ny_b:=am hy_b
 clear hy_b
 obtain⟨c13,H⟩:=ip_ H
 have LMc13:=am c13
 clear c13
 obtain⟨y_c,hy_c⟩:∃y_:List (List Int),y_=(x3_2++[y_b]):=⟨_,rfl⟩
 replace H:(impl_touching.l1 k2 l0 y_c x10_1 (wrap64 (x6_2+1)) l0 (l0.length:Int) x10_1 ((rd_T37 l0 x10_1).f0) ((rd_T37 l0 x10_1).f1) ((rd_T37 l0 x10_1).f2) ((rd_T37 l0 x10_1).f3))=some r:=Z24
 have Ny_c:=am hy_c
 clear hy_c
 have H':=am H
 clear H
 try go_wp2
 have n0_:=am (Kd.S_drew HO_3.1)
 have n1_:=am (blk_drew BKoa.1)
 have n2_:=am (below_drew1 HB.1)
 clear HO_3
 clear BKoa
 clear HB
 have HO_3:=n0_
 have BKoa:=n1_
 have HB:=n2_
 clear n0_ n1_ n2_
 have p380:0≤(x6_2:Int):=of_decide_eq_true Z5
 have q380:x6_2<(l0.length:Int):=of_decide_eq_true Z5
 obtain⟨ad380,e380,hx380_0,hx380_1,hx380_2,hx380_3⟩:=at_T37 HR0.1 x6_2 p380 q380
 have hw380_3:=hx380_3
 have hw380_2:=hx380_2
 have hw380_1:=hx380_1
 have hw380_0:=hx380_0
 obtain rfl:ad378=ad380:=(by injection e380)
 replace hx380_0:=(HB.1.cell (World.block_lt_of_cell? w _ hx380_0)).trans hx380_0
 replace hx380_1:=(HB.1.cell (World.block_lt_of_cell? w _ hx380_1)).trans hx380_1
 replace hx380_2:=(HB.1.cell (World.block_lt_of_cell? w _ hx380_2)).trans hx380_2
 replace hx380_3:=(HB.1.cell (World.block_lt_of_cell? w _ hx380_3)).trans hx380_3
 replace p380:=eq_true p380
 replace q380:=eq_true q380
 refine start_ (n:=7) (S:=fun w'=>w'.cell? ⟨gboa,0,none⟩=some (.int .i64 ((rd_T37 l0 x10_1).f0))∧w'.cell? ⟨gboa,1,none⟩=some (.int .i64 ((rd_T37 l0 x10_1).f1))∧w'.cell? ⟨gboa,2,none⟩=some (.int .i64 ((rd_T37 l0 x10_1).f2))∧w'.cell? ⟨gboa,3,none⟩=some (.int .i64 ((rd_T37 l0 x10_1).f3))∧w'.cell? (ad378.add ((x6_2).toNat*4))=some (.int .i64 ((rd_T37 l0 x6_2).f0))∧w'.cell? ⟨(ad378.add ((x6_2).toNat*4)).block,(ad378.add ((x6_2).toNat*4)).off+1,none⟩=some (.int .i64 ((rd_T37 l0 x6_2).f1))∧w'.cell? ⟨(ad378.add ((x6_2).toNat*4)).block,(ad378.add ((x6_2).toNat*4)).off+2,none⟩=some (.int .i64 ((rd_T37 l0 x6_2).f2))∧w'.cell? ⟨(ad378.add ((x6_2).toNat*4)).block,(ad378.add ((x6_2).toNat*4)).off+3,none⟩=some (.int .i64 ((rd_T37 l0 x6_2).f3))) (ds:=[]) M5 Z19 rfl rfl ⟨(blk_cell BKoa.1 0).trans rfl,(blk_cell BKoa.1 1).trans rfl,(blk_cell BKoa.1 2).trans rfl,(blk_cell BKoa.1 3).trans rfl,((HB.1.cell (World.block_lt_of_cell? w _ hw380_0)).trans hw380_0),((HB.1.cell (World.block_lt_of_cell? w _ hw380_1)).trans hw380_1),((HB.1.cell (World.block_lt_of_cell? w _ hw380_2)).trans hw380_2),((HB.1.cell (World.block_lt_of_cell? w _ hw380_3)).trans hw380_3)⟩ (fun hHeld=>?_)
 generalize wr.drew=w14 at HO_3 BKoa HB hx380_0 hx380_1 hx380_2 hx380_3 hHeld ⊢
 refine pure_ (i:=1) (N:=some 24) (v:=?_) (a':=?_) M6 rfl rfl Z19 (fun _ _ _ h=>h) (Or.inl ⟨(by rfl),?_⟩) ?_ ?_
 rotate_left
 ·
  intro w'
  go_simp
  with_reducible rfl
 rotate_left
 ·
  simp only[Act.put,List.setIfInBounds_toArray,List.set_cons_zero,List.set_cons_succ,i64_w,i32_w]
  rfl
 refine pure_ (i:=2) (N:=some 25) (v:=?_) (a':=?_) M7 rfl rfl Z19 (fun _ _ _ h=>h) (Or.inl ⟨(by rfl),?_⟩) ?_ ?_
 rotate_left
 ·
  intro w'
  go_simp
  with_reducible rfl
 rotate_left
 ·
  simp only[Act.put,List.setIfInBounds_toArray,List.set_cons_zero,List.set_cons_succ,i64_w,i32_w]
  rfl
 refine pure_ (i:=3) (N:=some 26) (v:=?_) (a':=?_) M8 rfl rfl Z19 (fun _ _ _ h=>h) (Or.inl ⟨(by rfl),?_⟩) ?_ ?_
 rotate_left
 ·
  intro w'
  go_simp
  with_reducible rfl
 rotate_left
 ·
  simp only[Act.put,List.setIfInBounds_toArray,List.set_cons_zero,List.set_cons_succ,i64_w,i32_w]
  rfl
 refine take_ (i:=0) (N:=some 23) (v:=?_) (a':=?_) M37 rfl rfl Z19 (fun _ _ _ h=>h) (Or.inl ⟨(by rfl),?_⟩) hHeld ?_ ?_
 rotate_left
 ·
  rintro w' ⟨s0,s1,s2,s3,s4,s5,s6,s7⟩
  go_simp
  with_reducible rfl
 rotate_left
 ·
  simp only[Act.put,List.setIfInBounds_toArray,List.set_cons_zero,List.set_cons_succ,i64_w,i32_w]
  rfl
 refine take_ (i:=4) (N:=some 27) (v:=?_) (a':=?_) M39 rfl rfl Z19 (fun _ _ _ h=>h) (Or.inl ⟨(by rfl),?_⟩) hHeld ?_ ?_
 rotate_left
 ·
  rintro w' ⟨s0,s1,s2,s3,s4,s5,s6,s7⟩
  go_simp
  with_reducible rfl
 rotate_left
 ·
  simp only[Act.put,List.setIfInBounds_toArray,List.set_cons_zero,List.set_cons_succ,i64_w,i32_w]
  rfl
 refine one_ (i:=5) (N:=some 28) M42 rfl rfl Z19 (by decide) (fun K hK=>?_)
 refine goes_ Tryz.func54 Z19 rfl #[.agg #[.int .i64 ((rd_T37 l0 x10_1).f0),.int .i64 ((rd_T37 l0 x10_1).f1),.int .i64 ((rd_T37 l0 x10_1).f2),.int .i64 ((rd_T37 l0 x10_1).f3)],.agg #[.int .i64 ((rd_T37 l0 x6_2).f0),.int .i64 ((rd_T37 l0 x6_2).f1),.int .i64 ((rd_T37 l0 x6_2).f2),.int .i64 ((rd_T37 l0 x6_2).f3)]] (by rfl) rfl rfl Z18 ?_
 with_reducible refine(impl_twice.calls ((rd_T37 l0 x10_1).f0) ((rd_T37 l0 x10_1).f1) ((rd_T37 l0 x10_1).f2) ((rd_T37 l0 x10_1).f3) ((rd_T37 l0 x6_2).f0) ((rd_T37 l0 x6_2).f1) ((rd_T37 l0 x6_2).f2) ((rd_T37 l0 x6_2).f3) t381 _ A11.1).mono ?_
 rintro e w15 ⟨rfl,hb⟩
 refine⟨_,rfl,?_⟩
 have n0_:=am (Kd.S_below (Z12 HO_3) hb)
 have n1_:=bk_ BKoa hb
 have n2_:=bw_ hb
 clear HO_3
 clear BKoa
 clear HB
 have HO_3:=n0_
 have BKoa:=n1_
 have HB:=n2_
 clear n0_ n1_ n2_
 (try clear hb)
 (try clear hb2)
 (try clear hk)
 (try clear hi)
 refine hK.out _ _ ⟨(blk_cell BKoa.1 0).trans rfl,(blk_cell BKoa.1 1).trans rfl,(blk_cell BKoa.1 2).trans rfl,(blk_cell BKoa.1 3).trans rfl,((HB.1.cell (World.block_lt_of_cell? w _ hw380_0)).trans hw380_0),((HB.1.cell (World.block_lt_of_cell? w _ hw380_1)).trans hw380_1),((HB.1.cell (World.block_lt_of_cell? w _ hw380_2)).trans hw380_2),((HB.1.cell (World.block_lt_of_cell? w _ hw380_3)).trans hw380_3)⟩ (fun hHeld=>?_)
 clear hK K
 refine norm_ (a':=?_) ?_ ?_
 rotate_left
 ·
  show Act.put _ (some 28) _=_
  simp only[Act.put,List.setIfInBounds_toArray,List.set_cons_zero,List.set_cons_succ,i64_w,i32_w]
  rfl
 refine pure_ (i:=6) (N:=some 29) (v:=?_) (a':=?_) M69 rfl rfl Z19 (fun _ _ _ h=>h) (Or.inl ⟨(by rfl),?_⟩) ?_ ?_
 rotate_left
 ·
  intro w'
  go_simp
  with_reducible rfl
 rotate_left
 ·
  simp only[Act.put,List.setIfInBounds_toArray,List.set_cons_zero,List.set_cons_succ,i64_w,i32_w]
  rfl
 refine done_ Z19 ?_
 try go_wp2_with (first|((with_reducible refine gd_ 33 rfl ?_);refine Kd.R_lit (Kd.int .i64) _ 3 ?hg (N:=33) ?hd (xs:=([x10_1,x6_2]:List Int)) (inner:=[.int .i64 x10_1,.int .i64 x6_2]) (ok:=fun _=>True) (okp:=fun _=>True) ?hr ?hp (fun _ hk=>hk) trivial (Below.refl _ _) (Nat.le_refl _) (by simp) ?_;(case hd=>rfl);(case hg=>rfl);(case hr=>first|(go_simp;done)|(go_simp;rfl));(case hp=>exact(Reps.one (show Kd.M (Kd.int .i64) _ _ _ x10_1 [.int .i64 x10_1]from rfl) (Reps.one (show Kd.M (Kd.int .i64) _ _ _ x6_2 [.int .i64 x6_2]from rfl) (Reps.none _ _))));intro v383 w16 ho17 hb hg_ hnew_;clear hg_ hnew_;(first|rw[←Ny_b.1]at ho17|(simp only[Int.reduceToNat]at ho17;rw[←Ny_b.1]at ho17));replace HO_3:=am (Kd.S_elder' (Z12 HO_3) (Kd.R_base ho17) hb);have HOoc:=am (Kd.R_lower ho17 zs_);replace BKoa:=bk_ BKoa hb;replace HB:=bw_ hb;clear hb ho17;obtain⟨Ao19,co19,eo19⟩:=Kd.R_slice HOoc.1;subst eo19)|((with_reducible refine gate_builtin (b:= .append) (xs:=#[.tmp 30,.tmp 34]) rfl ?_);at_builtin;refine Kd.S_append (Kd.slice 3 (Kd.int .i64)) (w0:=w) w.heap.size rfl (.tmp 30) (.tmp 34) 42 30 (.slice none 0 0) 24 rfl Tryz.underlying42 info30 rfl (by decide) (by omega) u3 x3_2 y_b [.slice Ao19 y_b.length co19] (fun _=>True) (fun k_=>some k_=(.slice Ao19 y_b.length co19:Value).ownBlock) rfl rfl ?aP (fun k_ hk_=>((Kd.R_mono (ok':=fun k_=>((fun _=>True)) k_∧some k_≠(u3:Value).ownBlock) (Kd.R_apart' (HOoc.1) (Kd.S_typed HO_3.1) (by decide)) (fun k_ hk=>⟨trivial,hk.2⟩))).1 k_ hk_.symm) ?aF ?aO ?aB ?aS ?aL ?_;(case aP=>exact Kd.M_row (Kd.R_mono (Kd.R_tight rfl (Kd.R_mono (ok':=fun k_=>((fun _=>True)) k_∧some k_≠(u3:Value).ownBlock) (Kd.R_apart' (HOoc.1) (Kd.S_typed HO_3.1) (by decide)) (fun k_ hk=>⟨trivial,hk.2⟩))) (fun _ h_=>h_)));(case aB=>exact ZB);(case aF=>exact(fun _ _=>trivial));(case aO=>exact(by(with_reducible repeat(first|apply Kd.S_alloc|apply Kd.S_drewN|apply Kd.S_drew));exact Kd.S_mono HO_3.1 (fun k_ hk=>⟨trivial,fun e_=>hk.2 e_⟩)));(case aS=>exact zs_);(case aL=>have:=LMc13.out;omega);intro v386 w18 ho hb hg hat;rw[←Ny_c.1]at ho;replace BKoa:=am (blk_grown (bb_ BKoa) hg (Kd.S_ne HO_3.1 BKoa.1 (by decide)));replace HB:=am hb;have HOod:=am ho;clear HOoc HO_3;clear ho hb hg hat))
 go_roundg k2
 case measure=>have:=HK1.1;have:=HK2.1;omega
 exact⟨(y_c),(wrap64 (x6_2+1)),Z7,H',⟨Z45⟩,⟨(Z12 HOod)⟩,⟨(bb_ BKoa)⟩,⟨ZB⟩⟩
def impl_within.f (a0:Int) (a1:Int) (a2:Int):Option (Bool):=if a0≥a1 then(some (decide (a0≤a2)))else(some false)
set_option maxHeartbeats 8000000 in
set_option maxRecDepth 100000 in
theorem impl_within.calls (a0:Int) (a1:Int) (a2:Int) (r:Bool) (w:World) (h:impl_within.f a0 a1 a2=some r):
  Calls Tryz.prog 33 #[.int .i64 a0,.int .i64 a1,.int .i64 a2] w fun e w'=>e= .returned (.bool r)∧Drawn0 w w':=by
 have H:=h
 clear h
 unfold impl_within.f at H
 by_cases c4:a0≥a1
 ·
  rw[if_pos c4]at H
  have c4b0:decide (a1≤a0)=true:=decide_eq_true c4
  clear c4
  obtain rfl:=Option.some.inj H
  go_enter Tryz.func33,Tryz.ntmps33
  go_wp2
  go_ret
  exact⟨Z7,Z16⟩
 rw[if_neg c4]at H
 have c4b0:decide (a1≤a0)=false:=decide_eq_false c4
 clear c4
 obtain rfl:=Option.some.inj H
 go_enter Tryz.func33,Tryz.ntmps33
 go_wp2
 go_ret
 exact⟨Z7,Z16⟩
def inB (lo hi x:Int):Bool:=decide (lo≤x)&&decide (x≤hi)
theorem within_f (x lo hi:Int):impl_within.f x lo hi=some (inB lo hi x):=by
  unfold impl_within.f inB
  by_cases h:x≥lo
  · rw[if_pos h];simp[show lo≤x from h]
  · rw[if_neg h];simp[show¬lo≤x from h]
set_option maxHeartbeats 4000000 in
theorem allWithin_pred (lo hi x:Int) (b1 b2:Nat) (W:World) (h1:W.cell? ⟨b1,0,none⟩=some (.int .i64 lo)) (h2:W.cell? ⟨b2,0,none⟩=some (.int .i64 hi)):
  Calls Tryz.prog 83 #[.int .i64 x,.pointer (some ⟨b1,0,none⟩),.pointer (some ⟨b2,0,none⟩)] W fun e w'=>e= .returned (.bool (!inB lo hi x))∧∃q,w'=W.drewN q:=by
 have A:=am (within_f x lo hi)
 go_enter Tryz.func83,Tryz.ntmps83
 go_wp2_with (go_at_call 33;(with_reducible refine(impl_within.calls x lo hi _ _ A.out).mono ?_);rintro e w' ⟨rfl,⟨nd,rfl⟩⟩)
 go_ret
 exact⟨rfl,_,rfl⟩
theorem any_take_succ {l:List Int} {p:Int→Bool} {k:Nat} (h:k<l.length):(l.take (k+1)).any p=((l.take k).any p||p (rd l k)):=by
  rw[List.take_succ_eq_append_getElem h,List.any_append]
  simp[rd,List.getD_eq_getElem?_getD,List.getElem?_eq_getElem h]
theorem any_of_take {l:List Int} {p:Int→Bool} {k:Nat} (h:k<l.length) (hp:p (rd l k)=true):l.any p=true:=by
  rw[List.any_eq_true]
  refine⟨l[k],List.getElem_mem _,?_⟩
  simpa[rd,List.getD_eq_getElem?_getD,List.getElem?_eq_getElem h]using hp
def idxSaid (b:Bool) (e:Ending):Prop:=∃i:Int,decide (0≤i)=b∧e= .returned (.int .i64 i)
set_option maxHeartbeats 4000000 in
theorem indexFunc_int (g:Nat) (lb:Array Value) (eg:∀args w,(callFunc g args).run Tryz.prog w= .ok (.enter g args) w) (p:Int→Bool) (A0:Option Addr) (c0:Nat) (l0:List Int) (w:World)
  (hp:∀(x:Int) (q:Nat),Calls Tryz.prog g (#[.int .i64 x]++lb) (w.drewN q) fun e w'=>e= .returned (.bool (p x))∧∃q',w'=(w.drewN q).drewN q')
  (hr0:Kd.C (Kd.int .i64) w A0 l0.length l0):
  Calls Tryz.prog 100 #[.slice A0 l0.length c0,.func (.func g) #[] lb] w fun e w'=>idxSaid (l0.any p) e∧∃q,w'=w.drewN q:=by
 have HR0:=am hr0
 clear hr0
 go_enter Tryz.func100,Tryz.ntmps100
 go_wp2
 go_loopg [5,8] l0.length (fun gg _ s8 wr=>∃kk q:Nat,kk≤l0.length∧l0.length-kk≤gg∧s8= .int .i64 kk∧wr=w.drewN q∧Aside0 ((l0.take kk).any p=false))
 case atStart=>exact⟨0,0,Nat.zero_le _,(by omega),rfl,rfl,⟨(by simp)⟩⟩
 obtain⟨kk,q,hkk,hg,rfl,rfl,A⟩:=hrel
 have hmx:l0.length≤9223372036854775807:=HR0.1.2.1
 by_cases hlt:kk<l0.length
 rotate_left
 ·
  have hltz:¬(kk:Int)<(l0.length:Int):=by omega
  have A':=am (show l0.any p=false by have h:=A.out;rwa [List.take_of_length_le (by omega)]at h)
  clear A
  go_wp2
  go_ret
  refine⟨⟨-1,?_,rfl⟩,_,rfl⟩
  rw[A'.out]
  rfl
 have hltz:(kk:Int)<(l0.length:Int):=by omega
 obtain⟨ad,e1,hcell⟩:=Kd.at_int HR0.1 (kk:Int) (by omega) (by omega)
 cases e1
 simp only[Int.toNat_natCast]at hcell
 have hts:=am (any_take_succ (p:=p) hlt)
 have hof:=am (fun h=>any_of_take (p:=p) hlt h)
 have hcall:=hp (rd l0 kk)
 generalize hy:rd l0 (kk:Int)=y at hcell hts hof hcall
 clear hy
 cases hq:p y with
 |true=>
  rw[hq]at hcall
  replace hof:=am (hof.out hq)
  clear hts hq
  go_wp2_with (go_at_fn g;refine(hcall _).mono ?_;rintro e w' ⟨rfl,q',rfl⟩)
  go_ret
  refine⟨⟨_,?_,rfl⟩,_,rfl⟩
  rw[hof.out]
  exact decide_eq_true (by omega)
 |false=>
  rw[hq]at hcall
  replace hts:=am (hts.out.trans (by rw[hq,A.out];first|done|rfl))
  clear hof hq
  go_wp2_with (go_at_fn g;refine(hcall _).mono ?_;rintro e w' ⟨rfl,q',rfl⟩)
  go_roundg (l0.length-(kk+1))
  case measure=>omega
  exact⟨kk+1,_,(by omega),(by omega),Z55,rfl,hts⟩
set_option maxHeartbeats 4000000 in
theorem containsFunc_int (g:Nat) (lb:Array Value) (eg:∀args w,(callFunc g args).run Tryz.prog w= .ok (.enter g args) w) (p:Int→Bool) (A0:Option Addr) (c0:Nat) (l0:List Int) (w:World)
  (hp:∀(x:Int) (q:Nat),Calls Tryz.prog g (#[.int .i64 x]++lb) (w.drewN q) fun e w'=>e= .returned (.bool (p x))∧∃q',w'=(w.drewN q).drewN q')
  (hr0:Kd.C (Kd.int .i64) w A0 l0.length l0):
  Calls Tryz.prog 82 #[.slice A0 l0.length c0,.func (.func g) #[] lb] w fun e w'=>e= .returned (.bool (l0.any p))∧∃q,w'=w.drewN q:=by
 have hc:=indexFunc_int g lb eg p A0 c0 l0 w hp hr0
 clear hp hr0
 go_enter Tryz.func82,Tryz.ntmps82
 go_wp2_with (go_at_call 100;refine hc.mono ?_;rintro e w' ⟨⟨i,hi,rfl⟩,q,rfl⟩)
 go_ret
 exact⟨(by rw[←hi];rfl),q,rfl⟩
def impl_allWithin.f (l0:List Int) (a1:Int) (a2:Int):Option Bool:=some (l0.all (inB a1 a2))
set_option maxHeartbeats 4000000 in
theorem impl_allWithin.calls (A0:Option Addr) (c0:Nat) (l0:List Int) (a1:Int) (a2:Int) (r:Bool) (w:World) (hr0:Kd.C (Kd.int .i64) w A0 l0.length l0) (hc0:l0.length≤c0) (h:impl_allWithin.f l0 a1 a2=some r):
  Calls Tryz.prog 51 #[.slice A0 l0.length c0,.int .i64 a1,.int .i64 a2] w fun e w'=>e= .returned (.bool r)∧Below w.heap.size w w':=by
 have hr:r= !(l0.any fun x=> !inB a1 a2 x):=by
  unfold impl_allWithin.f at h
  rw[←Option.some.inj h,List.not_any_eq_all_not]
  simp
 have HR0:=am hr0
 have HE:=am hr
 clear hr0 h hr
 go_enter Tryz.func51,Tryz.ntmps51
 have eg:=enters_of Tryz.func83 Z19 rfl
 go_wp2_with fail
 have hbl:Below w.heap.size w ((w.alloc (.cells #[.int .i64 a1] 3)).alloc (.cells #[.int .i64 a2] 3)):=below_alloc (below_alloc (Below.refl _ _) _) _
 have h1:∀q,(((w.alloc (.cells #[.int .i64 a1] 3)).alloc (.cells #[.int .i64 a2] 3)).drewN q).cell? ⟨w.heap.size,0,none⟩=some (.int .i64 a1):=fun q=>by go_simp
 have h2:∀q,(((w.alloc (.cells #[.int .i64 a1] 3)).alloc (.cells #[.int .i64 a2] 3)).drewN q).cell? ⟨w.heap.size+1,0,none⟩=some (.int .i64 a2):=fun q=>by go_simp
 refine(containsFunc_int 83 #[.pointer (some ⟨w.heap.size,0,none⟩),.pointer (some ⟨w.heap.size+1,0,none⟩)] eg (fun x=> !inB a1 a2 x) A0 c0 l0 _ (fun x q=>?hp) (Kd.C_below HR0.1 hbl)).mono ?_
 case hp=>exact allWithin_pred a1 a2 x _ _ _ (h1 q) (h2 q)
 rintro e w' ⟨rfl,q,rfl⟩
 clear h1 h2
 go_wp2
 go_ret
 exact⟨(by rw[HE.out];rfl),pw_below_drewN hbl q⟩
def impl_Circle_numbers.f (a0_0:Int) (a0_1:Int) (a0_2:Int) (a0_3:Int):Option (List Int):=some (([a0_0,a0_1,a0_2,a0_3]:List Int))
set_option maxHeartbeats 8000000 in
set_option maxRecDepth 100000 in
theorem impl_Circle_numbers.calls (a0_0:Int) (a0_1:Int) (a0_2:Int) (a0_3:Int) (r:List Int) (w:World) (h:impl_Circle_numbers.f a0_0 a0_1 a0_2 a0_3=some r):
  Calls Tryz.prog 52 #[.agg #[.int .i64 a0_0,.int .i64 a0_1,.int .i64 a0_2,.int .i64 a0_3]] w fun e w'=>∃v0_:Value,e= .returned (v0_)∧Kd.R (Kd.int .i64) 3 w' w.heap.size (fun _=>True) v0_ r∧Below w.heap.size w w':=by
 have hu37:=Tryz.underlying37
 have HB:=am (Below.refl w.heap.size w)
 have H:(some (([a0_0,a0_1,a0_2,a0_3]:List Int)))=some r:=h
 clear h
 obtain⟨y_a,hy_a⟩:∃y_:List Int,y_=(([a0_0,a0_1,a0_2,a0_3]:List Int)):=⟨_,rfl⟩
 replace H:(some y_a)=some r:=Z8
 have Ny_a:=am hy_a
 clear hy_a
 obtain rfl:=Option.some.inj H
 go_enter Tryz.func52,Tryz.ntmps52
 go_wp2_with (first|((with_reducible refine gd_ 1 rfl ?_);refine boxN_ 1 #[.int .i64 a0_0,.int .i64 a0_1,.int .i64 a0_2,.int .i64 a0_3] 37 ?_;intro gboa hg w2 hbox hb;have BKoa:=am hbox;have GWoa:=gG_ hg;have GEoa:=gG_ hg;replace HB:=bw_ hb;clear hb hbox hg;obtain⟨_,_,_,_,_,_,_,_⟩:=cz4_ BKoa)|((with_reducible refine gd_ 11 rfl ?_);refine Kd.R_lit (Kd.int .i64) _ 3 ?hg (N:=11) ?hd (xs:=([a0_0,a0_1,a0_2,a0_3]:List Int)) (inner:=[.int .i64 a0_0,.int .i64 a0_1,.int .i64 a0_2,.int .i64 a0_3]) (ok:=fun _=>True) (okp:=fun _=>True) ?hr ?hp (fun _ hk=>hk) trivial (Below.refl _ _) (Nat.le_refl _) (by simp) ?_;(case hd=>rfl);(case hg=>rfl);(case hr=>first|(go_simp;done)|(go_simp;rfl));(case hp=>exact(Reps.one (show Kd.M (Kd.int .i64) _ _ _ a0_0 [.int .i64 a0_0]from rfl) (Reps.one (show Kd.M (Kd.int .i64) _ _ _ a0_1 [.int .i64 a0_1]from rfl) (Reps.one (show Kd.M (Kd.int .i64) _ _ _ a0_2 [.int .i64 a0_2]from rfl) (Reps.one (show Kd.M (Kd.int .i64) _ _ _ a0_3 [.int .i64 a0_3]from rfl) (Reps.none _ _))))));intro v390 w4 ho5 hb hg_ hnew_;clear hg_ hnew_;(first|rw[←Ny_a.1]at ho5|(simp only[Int.reduceToNat]at ho5;rw[←Ny_a.1]at ho5));have HOob:=am (Kd.R_lower ho5 zs_);replace BKoa:=bk_ BKoa hb;replace HB:=bw_ hb;clear hb ho5))
 go_ret
 exact⟨_,Z6,(Z1 HOob),ZB⟩
def impl_IsCircle.f (a0_0:Int) (a0_1:Int) (a0_2:Int) (a0_3:Int):Option (Bool):=(impl_Circle_numbers.f a0_0 a0_1 a0_2 a0_3).bind fun t393=>((impl_allWithin.f t393 (-1000000) 1000000).bind fun t396=>(if t396=true then(some ((wrap64 ((wrap64 ((wrap64 (a0_2*a0_2))+(wrap64 (a0_3*a0_3))))-(wrap64 (a0_0*a0_1))))==1))else(some false)))
set_option maxHeartbeats 8000000 in
set_option maxRecDepth 100000 in
theorem impl_IsCircle.calls (a0_0:Int) (a0_1:Int) (a0_2:Int) (a0_3:Int) (r:Bool) (w:World) (h:impl_IsCircle.f a0_0 a0_1 a0_2 a0_3=some r):
  Calls Tryz.prog 12 #[.agg #[.int .i64 a0_0,.int .i64 a0_1,.int .i64 a0_2,.int .i64 a0_3]] w fun e w'=>e= .returned (.bool r)∧Below w.heap.size w w':=by
 have hu37:=Tryz.underlying37
 have HB:=am (Below.refl w.heap.size w)
 have H:=h
 clear h
 unfold impl_IsCircle.f at H
 obtain⟨t393,A2,H⟩:=bs_ H
 try dsimp only at H
 obtain⟨t396,A3,H⟩:=bs_ H
 try dsimp only at H
 by_cases c4:t396=true
 ·
  subst c4
  rw[if_pos rfl]at H
  obtain rfl:=Option.some.inj H
  go_enter Tryz.func12,Tryz.ntmps12
  go_wp2_with (first|((with_reducible refine gd_ 1 rfl ?_);refine boxN_ 1 #[.int .i64 a0_0,.int .i64 a0_1,.int .i64 a0_2,.int .i64 a0_3] 37 ?_;intro gboa hg w5 hbox hb;have BKoa:=am hbox;have GWoa:=gG_ hg;have GEoa:=gG_ hg;replace HB:=bw_ hb;clear hb hbox hg;obtain⟨_,_,_,_,_,_,_,_⟩:=cz4_ BKoa)|((with_reducible refine gc_ 52 rfl ?_);refine gE_ (some 4) Tryz.func52 (impl_Circle_numbers.calls a0_0 a0_1 a0_2 a0_3 t393 _ A2.1) ?_;rintro v394 w7 ⟨ho0,hb⟩;have HOob:=am (Kd.R_lower ho0 zs_);replace BKoa:=bk_ BKoa hb;replace HB:=bw_ hb;clear hb;(try clear ho0);obtain⟨Ao8,co8,eo8⟩:=Kd.R_slice HOob.1;subst eo8)|((with_reducible refine gc_ 51 rfl ?_);refine gM_ (some 5) Tryz.func51 (impl_allWithin.calls _ _ t393 (-1000000) 1000000 true _ ?side1 ?side2 A3.1) ?_;(case side1=>exact(Z10 HOob));(case side2=>exact(Kd.R_reads' HOob.1).2.1);intro w9 hb;replace HOob:=am (Kd.R_below (Z1 HOob) hb);replace BKoa:=bk_ BKoa hb;replace HB:=bw_ hb;clear hb;obtain⟨_,_,_,_,_,_,_,_⟩:=cz4_ BKoa))
  go_ret
  exact⟨Z6,ZB⟩
 replace c4:=Bool.eq_false_iff.mpr c4
 subst c4
 rw[if_neg (show¬(false=true) by decide)]at H
 obtain rfl:=Option.some.inj H
 go_enter Tryz.func12,Tryz.ntmps12
 go_wp2_with (first|((with_reducible refine gd_ 1 rfl ?_);refine boxN_ 1 #[.int .i64 a0_0,.int .i64 a0_1,.int .i64 a0_2,.int .i64 a0_3] 37 ?_;intro gboa hg w11 hbox hb;have BKoa:=am hbox;have GWoa:=gG_ hg;have GEoa:=gG_ hg;replace HB:=bw_ hb;clear hb hbox hg;obtain⟨_,_,_,_,_,_,_,_⟩:=cz4_ BKoa)|((with_reducible refine gc_ 52 rfl ?_);refine gE_ (some 4) Tryz.func52 (impl_Circle_numbers.calls a0_0 a0_1 a0_2 a0_3 t393 _ A2.1) ?_;rintro v394 w13 ⟨ho0,hb⟩;have HOob:=am (Kd.R_lower ho0 zs_);replace BKoa:=bk_ BKoa hb;replace HB:=bw_ hb;clear hb;(try clear ho0);obtain⟨Ao14,co14,eo14⟩:=Kd.R_slice HOob.1;subst eo14)|((with_reducible refine gc_ 51 rfl ?_);refine gM_ (some 5) Tryz.func51 (impl_allWithin.calls _ _ t393 (-1000000) 1000000 false _ ?side1 ?side2 A3.1) ?_;(case side1=>exact(Z10 HOob));(case side2=>exact(Kd.R_reads' HOob.1).2.1);intro w15 hb;replace HOob:=am (Kd.R_below (Z1 HOob) hb);replace BKoa:=bk_ BKoa hb;replace HB:=bw_ hb;clear hb))
 go_ret
 exact⟨Z6,ZB⟩
def impl_areCircles_1.f (a0_0:Int) (a0_1:Int) (a0_2:Int) (a0_3:Int):Option (Bool):=(impl_IsCircle.f a0_0 a0_1 a0_2 a0_3).bind fun t398=>(some (!t398))
set_option maxHeartbeats 8000000 in
set_option maxRecDepth 100000 in
theorem impl_areCircles_1.calls (a0_0:Int) (a0_1:Int) (a0_2:Int) (a0_3:Int) (r:Bool) (w:World) (h:impl_areCircles_1.f a0_0 a0_1 a0_2 a0_3=some r):
  Calls Tryz.prog 85 #[.agg #[.int .i64 a0_0,.int .i64 a0_1,.int .i64 a0_2,.int .i64 a0_3]] w fun e w'=>e= .returned (.bool r)∧Below w.heap.size w w':=by
 have hu37:=Tryz.underlying37
 have HB:=am (Below.refl w.heap.size w)
 have H:=h
 clear h
 unfold impl_areCircles_1.f at H
 obtain⟨t398,A2,H⟩:=bs_ H
 try dsimp only at H
 obtain rfl:=Option.some.inj H
 go_enter Tryz.func85,Tryz.ntmps85
 go_wp2_with (first|((with_reducible refine gd_ 1 rfl ?_);refine boxN_ 1 #[.int .i64 a0_0,.int .i64 a0_1,.int .i64 a0_2,.int .i64 a0_3] 37 ?_;intro gboa hg w3 hbox hb;have BKoa:=am hbox;have GWoa:=gG_ hg;have GEoa:=gG_ hg;replace HB:=bw_ hb;clear hb hbox hg;obtain⟨_,_,_,_,_,_,_,_⟩:=cz4_ BKoa)|((with_reducible refine gc_ 12 rfl ?_);refine gM_ (some 4) Tryz.func12 (impl_IsCircle.calls a0_0 a0_1 a0_2 a0_3 t398 _ A2.1) ?_;intro w5 hb;replace BKoa:=bk_ BKoa hb;replace HB:=bw_ hb;clear hb))
 go_ret
 exact⟨Z6,ZB⟩
def isC (x:S37):Bool:=(([x.f0,x.f1,x.f2,x.f3]:List Int).all (inB (-1000000) 1000000))&&(wrap64 ((wrap64 ((wrap64 (x.f2*x.f2))+(wrap64 (x.f3*x.f3))))-(wrap64 (x.f0*x.f1)))==1)
theorem impl_isC (a b c d:Int):impl_IsCircle.f a b c d=some (isC ⟨a,b,c,d⟩):=by
  unfold impl_IsCircle.f impl_Circle_numbers.f impl_allWithin.f isC
  simp only[Option.bind_some]
  cases h:([a,b,c,d]:List Int).all (inB (-1000000) 1000000)with
  |true=>rw[if_pos rfl];rfl
  |false=>rw[if_neg (by decide)];rfl
set_option maxHeartbeats 4000000 in
theorem areCircles_pred (x:S37) (W:World):
    Calls Tryz.prog 85 #[.agg #[.int .i64 x.f0,.int .i64 x.f1,.int .i64 x.f2,.int .i64 x.f3]] W fun e w'=>e= .returned (.bool (!isC x))∧Below W.heap.size W w':=by
  have h:impl_areCircles_1.f x.f0 x.f1 x.f2 x.f3=some (!isC x):=by
    unfold impl_areCircles_1.f
    rw[impl_isC]
    rfl
  exact impl_areCircles_1.calls x.f0 x.f1 x.f2 x.f3 _ W h
theorem anyC_take_succ {l:List S37} {p:S37→Bool} {k:Nat} (h:k<l.length):(l.take (k+1)).any p=((l.take k).any p||p (rd_T37 l k)):=by
  rw[List.take_succ_eq_append_getElem h,List.any_append]
  simp[rd_T37,List.getD_eq_getElem?_getD,List.getElem?_eq_getElem h]
theorem anyC_of_take {l:List S37} {p:S37→Bool} {k:Nat} (h:k<l.length) (hp:p (rd_T37 l k)=true):l.any p=true:=by
  rw[List.any_eq_true]
  refine⟨l[k],List.getElem_mem _,?_⟩
  simpa[rd_T37,List.getD_eq_getElem?_getD,List.getElem?_eq_getElem h]using hp
set_option maxHeartbeats 4000000 in
theorem indexFunc_C (g:Nat) (lb:Array Value) (eg:∀args w,(callFunc g args).run Tryz.prog w= .ok (.enter g args) w) (p:S37→Bool) (A0:Option Addr) (c0:Nat) (l0:List S37) (w:World)
  (hp:∀(x:S37) (W:World),Calls Tryz.prog g (#[.agg #[.int .i64 x.f0,.int .i64 x.f1,.int .i64 x.f2,.int .i64 x.f3]]++lb) W fun e w'=>e= .returned (.bool (p x))∧Below W.heap.size W w')
  (hr0:Kd.C k37 w A0 l0.length l0):
  Calls Tryz.prog 101 #[.slice A0 l0.length c0,.func (.func g) #[] lb] w fun e w'=>idxSaid (l0.any p) e∧Below w.heap.size w w':=by
 have HR0:=am hr0
 have hu25:=Tryz.underlying37
 clear hr0
 go_enter Tryz.func101,Tryz.ntmps101
 go_wp2
 go_loopg [5,8] l0.length (fun gg _ s8 wr=>∃kk:Nat,kk≤l0.length∧l0.length-kk≤gg∧s8= .int .i64 kk∧Aside0 (Below w.heap.size w wr)∧Aside0 ((l0.take kk).any p=false))
 case atStart=>exact⟨0,Nat.zero_le _,(by omega),rfl,⟨Below.refl _ _⟩,⟨(by simp)⟩⟩
 obtain⟨kk,hkk,hg,rfl,HB,A⟩:=hrel
 have HRr:=am (Kd.C_below HR0.1 HB.1)
 have hmx:l0.length≤9223372036854775807:=HR0.1.2.1
 by_cases hlt:kk<l0.length
 rotate_left
 ·
  have hltz:¬(kk:Int)<(l0.length:Int):=by omega
  have A':=am (show l0.any p=false by have h:=A.out;rwa [List.take_of_length_le (by omega)]at h)
  clear A
  go_wp2
  go_ret
  refine⟨⟨-1,?_,rfl⟩,HB.1⟩
  rw[A'.out]
  rfl
 have hltz:(kk:Int)<(l0.length:Int):=by omega
 obtain⟨ad,e1,hcell0,hcell1,hcell2,hcell3⟩:=at_T37 HRr.1 (kk:Int) (by omega) (by omega)
 cases e1
 simp only[Int.toNat_natCast]at hcell0 hcell1 hcell2 hcell3
 have hts:=am (anyC_take_succ (p:=p) hlt)
 have hof:=am (fun h=>anyC_of_take (p:=p) hlt h)
 have hcall:=hp (rd_T37 l0 kk)
 generalize hy:rd_T37 l0 (kk:Int)=y at hcell0 hcell1 hcell2 hcell3 hts hof hcall
 clear hy
 have hcall:=am hcall
 cases hq:p y with
 |true=>
  rw[hq]at hcall
  replace hof:=am (hof.out hq)
  clear hts hq
  go_wp2_with (go_at_fn g;refine(hcall.out _).mono ?_;rintro e w' ⟨rfl,hb⟩;have HB':=am (below_step HB.1 hb);clear hb)
  go_ret
  refine⟨⟨_,?_,rfl⟩,HB'.out⟩
  rw[hof.out]
  exact decide_eq_true (by omega)
 |false=>
  rw[hq]at hcall
  replace hts:=am (hts.out.trans (by rw[hq,A.out];first|done|rfl))
  clear hof hq
  go_wp2_with (go_at_fn g;refine(hcall.out _).mono ?_;rintro e w' ⟨rfl,hb⟩;have HB':=am (below_step HB.1 hb);clear hb)
  go_roundg (l0.length-(kk+1))
  case measure=>omega
  exact⟨kk+1,(by omega),(by omega),Z55,HB',hts⟩
set_option maxHeartbeats 4000000 in
theorem containsFunc_C (g:Nat) (lb:Array Value) (eg:∀args w,(callFunc g args).run Tryz.prog w= .ok (.enter g args) w) (p:S37→Bool) (A0:Option Addr) (c0:Nat) (l0:List S37) (w:World)
  (hp:∀(x:S37) (W:World),Calls Tryz.prog g (#[.agg #[.int .i64 x.f0,.int .i64 x.f1,.int .i64 x.f2,.int .i64 x.f3]]++lb) W fun e w'=>e= .returned (.bool (p x))∧Below W.heap.size W w')
  (hr0:Kd.C k37 w A0 l0.length l0):
  Calls Tryz.prog 84 #[.slice A0 l0.length c0,.func (.func g) #[] lb] w fun e w'=>e= .returned (.bool (l0.any p))∧Below w.heap.size w w':=by
 have hc:=indexFunc_C g lb eg p A0 c0 l0 w hp hr0
 clear hp hr0
 go_enter Tryz.func84,Tryz.ntmps84
 go_wp2_with (go_at_call 101;refine hc.mono ?_;rintro e w' ⟨⟨i,hi,rfl⟩,hb⟩;have HB':=am hb;clear hb)
 go_ret
 exact⟨(by rw[←hi];rfl),HB'.out⟩
def impl_areCircles.f (l0:List S37):Option Bool:=some (l0.all isC)
set_option maxHeartbeats 4000000 in
theorem impl_areCircles.calls (A0:Option Addr) (c0:Nat) (l0:List S37) (r:Bool) (w:World) (hr0:Kd.C k37 w A0 l0.length l0) (hc0:l0.length≤c0) (h:impl_areCircles.f l0=some r):
  Calls Tryz.prog 53 #[.slice A0 l0.length c0] w fun e w'=>e= .returned (.bool r)∧Below w.heap.size w w':=by
 have hr:r= !(l0.any fun x=> !isC x):=by
  unfold impl_areCircles.f at h
  rw[←Option.some.inj h,List.not_any_eq_all_not]
  simp
 have eg:=enters_of Tryz.func85 Z19 rfl
 have hc:=containsFunc_C 85 #[] eg (fun x=> !isC x) A0 c0 l0 w (fun x W=>areCircles_pred x W) hr0
 have HE:=am hr
 clear hr0 h hr
 go_enter Tryz.func53,Tryz.ntmps53
 go_wp2_with (go_at_call 84;refine hc.mono ?_;rintro e w' ⟨rfl,hb⟩;have HB':=am hb;clear hb)
 go_ret
 exact⟨(by rw[HE.out];rfl),HB'.out⟩
def impl_areFour.f (l0:List (S37)):Option (Bool):=if(l0.length:Int)=4 then((impl_areCircles.f l0).bind fun t399=>(some t399))else(some false)
set_option maxHeartbeats 8000000 in
set_option maxRecDepth 100000 in
theorem impl_areFour.calls (A0:Option Addr) (c0:Nat) (l0:List (S37)) (r:Bool) (w:World) (hr0:Kd.C k37 w A0 l0.length l0) (hc0:l0.length≤c0) (h:impl_areFour.f l0=some r):
  Calls Tryz.prog 70 #[.slice A0 l0.length c0] w fun e w'=>e= .returned (.bool r)∧Below w.heap.size w w':=by
 have HR0:=am hr0
 have HC0:=am hc0
 clear hr0 hc0
 have HB:=am (Below.refl w.heap.size w)
 have H:=h
 clear h
 unfold impl_areFour.f at H
 by_cases c2:(l0.length:Int)=4
 rotate_left
 ·
  rw[if_neg c2]at H
  obtain⟨c2b0,c2b1⟩:=ne2_ c2
  obtain rfl:=Option.some.inj H
  go_enter Tryz.func70,Tryz.ntmps70
  go_wp2
  go_ret
  exact⟨Z6,ZB⟩
 rw[if_pos c2]at H
 obtain⟨c2b0,c2b1⟩:=eq2_ c2
 clear c2
 obtain⟨t399,A3,H⟩:=bs_ H
 try dsimp only at H
 obtain rfl:=Option.some.inj H
 go_enter Tryz.func70,Tryz.ntmps70
 go_wp2_with (first|(go_at_call 53;(with_reducible refine(impl_areCircles.calls _ _ l0 t399 _ ?side1 ?side2 A3.1).mono ?_);(case side1=>exact(Z11 HR0));(case side2=>exact HC0.1);rintro e w4 ⟨rfl,hb⟩;replace HB:=bw_ hb;clear hb))
 go_ret
 exact⟨Z6,ZB⟩
def impl_isConfig.f (k:Nat) (l0:List (S37)):Option (Bool):=(impl_areFour.f l0).bind fun t400=>(if t400=true then((impl_touching.f k l0).bind fun t401=>(some ((t401.length:Int)==6)))else(some false))
theorem impl_isConfig.mono:∀a0 k,LeO (impl_isConfig.f k a0) (impl_isConfig.f (k+1) a0):=by
  intro a0 k
  unfold impl_isConfig.f
  exact mo_
set_option maxHeartbeats 8000000 in
set_option maxRecDepth 100000 in
theorem impl_isConfig.calls (k:Nat) (A0:Option Addr) (c0:Nat) (l0:List (S37)) (r:Bool) (w:World) (hr0:Kd.C k37 w A0 l0.length l0) (hc0:l0.length≤c0) (h:impl_isConfig.f k l0=some r):
  Calls Tryz.prog 32 #[.slice A0 l0.length c0] w fun e w'=>e= .returned (.bool r)∧Below w.heap.size w w':=by
 have HR0:=am hr0
 have HC0:=am hc0
 clear hr0 hc0
 have HB:=am (Below.refl w.heap.size w)
 have H:=h
 clear h
 unfold impl_isConfig.f at H
 obtain⟨t400,A2,H⟩:=bs_ H
 try dsimp only at H
 by_cases c3:t400=true
 rotate_left
 ·
  replace c3:=Bool.eq_false_iff.mpr c3
  subst c3
  rw[if_neg (show¬(false=true) by decide)]at H
  obtain rfl:=Option.some.inj H
  go_enter Tryz.func32,Tryz.ntmps32
  go_wp2_with (first|((with_reducible refine gc_ 70 rfl ?_);refine gM_ (some 4) Tryz.func70 (impl_areFour.calls _ _ l0 false _ ?side1 ?side2 A2.1) ?_;(case side1=>exact(Z11 HR0));(case side2=>exact HC0.1);intro w8 hb;replace HB:=bw_ hb;clear hb))
  go_ret
  exact⟨Z6,ZB⟩
 subst c3
 rw[if_pos rfl]at H
 obtain⟨t401,A4,H⟩:=bs_ H
 try dsimp only at H
 obtain rfl:=Option.some.inj H
 go_enter Tryz.func32,Tryz.ntmps32
 go_wp2_with (first|((with_reducible refine gc_ 70 rfl ?_);refine gM_ (some 4) Tryz.func70 (impl_areFour.calls _ _ l0 true _ ?side1 ?side2 A2.1) ?_;(case side1=>exact(Z11 HR0));(case side2=>exact HC0.1);intro w5 hb;replace HB:=bw_ hb;clear hb)|(go_at_call 57;(with_reducible refine(impl_touching.calls k _ _ l0 t401 _ ?side1 ?side2 A4.1).mono ?_);(case side1=>exact(Z15 HR0));(case side2=>exact HC0.1);rintro e w6 ⟨v402,rfl,ho0,hb⟩;have HOoa:=am (Kd.S_lower ho0 zs_);replace HB:=bw_ hb;clear hb;(try clear ho0);obtain⟨Ao7,co7,eo7⟩:=Kd.S_slice HOoa.1;subst eo7))
 go_ret
 exact⟨Z6,ZB⟩
def impl_curvatures.l0:Nat→List Int→List (S37)→Int→Int→Option (List Int)
  |0,_,_,_,_=>none
  |k+1,x3,x7,x8,x9=>if x9<x8 then(if 0≤x9 then(if x9<(x7.length:Int)then(if x3.length<17592186044416 then(impl_curvatures.l0 k (x3++[(rd_T37 x7 x9).f1]) x7 x8 (wrap64 (x9+1)))else(none))else(none))else(none))else(some x3)
def impl_curvatures.f (k:Nat) (l0:List (S37)):Option (List Int):=impl_curvatures.l0 k (([]:List Int)) l0 (l0.length:Int) 0
theorem impl_curvatures.mono_l:∀k,(∀y0 y1 y2 y3,LeO (impl_curvatures.l0 k y0 y1 y2 y3) (impl_curvatures.l0 (k+1) y0 y1 y2 y3))
  |0=>fun _ _ _ _ r h=>by simp[impl_curvatures.l0]at h
  |k+1=>by
    have ih0:=impl_curvatures.mono_l k
    · intro y0 y1 y2 y3
      unfold impl_curvatures.l0
      exact mo_
theorem impl_curvatures.mono:∀a0 k,LeO (impl_curvatures.f k a0) (impl_curvatures.f (k+1) a0):=by
  intro a0 k
  have ih0:=impl_curvatures.mono_l k
  unfold impl_curvatures.f
  exact mo_
set_option maxHeartbeats 8000000 in
set_option maxRecDepth 100000 in
theorem impl_curvatures.calls (k:Nat) (A0:Option Addr) (c0:Nat) (l0:List (S37)) (r:List Int) (w:World) (hr0:Kd.C k37 w A0 l0.length l0) (hc0:l0.length≤c0) (h:impl_curvatures.f k l0=some r):
  Calls Tryz.prog 34 #[.slice A0 l0.length c0] w fun e w'=>∃v0_:Value,e= .returned (v0_)∧Kd.R (Kd.int .i64) 3 w' w.heap.size (fun _=>True) v0_ r∧Below w.heap.size w w':=by
 have hu37:=Tryz.underlying37
 have HR0:=am hr0
 have HC0:=am hc0
 clear hr0 hc0
 have HB:=am (Below.refl w.heap.size w)
 have H:=h
 clear h
 unfold impl_curvatures.f at H
 obtain⟨y_a,hy_a⟩:∃y_:List Int,y_=(([]:List Int)):=⟨_,rfl⟩
 replace H:(impl_curvatures.l0 k y_a l0 (l0.length:Int) 0)=some r:=Z8
 have Ny_a:=am hy_a
 clear hy_a
 have H':=am H
 clear H
 go_enter Tryz.func34,Tryz.ntmps34
 go_wp2_with (first|((with_reducible refine gd_ 6 rfl ?_);refine Kd.R_lit (Kd.int .i64) _ 3 ?hg (N:=6) ?hd (xs:=([]:List Int)) (inner:=[]) (ok:=fun _=>True) (okp:=fun _=>True) ?hr ?hp (fun _ hk=>hk) trivial (Below.refl _ _) (Nat.le_refl _) (by simp) ?_;(case hd=>rfl);(case hg=>rfl);(case hr=>first|(go_simp;done)|(go_simp;rfl));(case hp=>exact(Reps.none _ _));intro v405 w2 ho3 hb hg_ hnew_;clear hg_ hnew_;(first|rw[←Ny_a.1]at ho3|(simp only[Int.reduceToNat]at ho3;rw[←Ny_a.1]at ho3));have HOob:=am (Kd.R_lower ho3 zs_);replace HB:=bw_ hb;clear hb ho3))
 go_loopg [3,9] k (fun kq v3 v9 w'=>∃(x3_1:List Int) (x9_1:Int),v9= .int .i64 x9_1∧Aside0 (impl_curvatures.l0 kq x3_1 l0 (l0.length:Int) x9_1=some r)∧Aside0 (kq≤k)∧Aside0 (Kd.R (Kd.int .i64) 3 w' w.heap.size (fun _=>True) v3 x3_1)∧Aside0 (Below w.heap.size w w'))
 case atStart=>exact⟨(y_a),(0),Z7,H',⟨Nat.le_refl _⟩,⟨(Z1 HOob)⟩,⟨ZB⟩⟩
 clear H'
 obtain⟨x3_1,x9_1,rfl,HA,HK1,HO_3,HB⟩:=hrel
 obtain _|k1:=gk
 ·
  exact absurd HA.out (by simp[impl_curvatures.l0])
 have H:=HA.out
 clear HA
 simp only[impl_curvatures.l0]at H
 by_cases c4:x9_1<(l0.length:Int)
 rotate_left
 ·
  rw[if_neg c4]at H
  have c4b0:=decide_eq_false c4
  clear c4
  obtain rfl:=Option.some.inj H
  go_wp2
  go_ret
  exact⟨_,Z6,(Z1 HO_3),ZB⟩
 rw[if_pos c4]at H
 have c4b0:=decide_eq_true c4
 clear c4
 obtain⟨c5,H⟩:=ip_ H
 have c5b0:=decide_eq_true c5
 clear c5
 obtain⟨c6,H⟩:=ip_ H
 have c6b0:=decide_eq_true c6
 clear c6
 obtain⟨c7,H⟩:=ip_ H
 have LMc7:=am c7
 clear c7
 obtain⟨y_b,hy_b⟩:∃y_:List Int,y_=(x3_1++[(rd_T37 l0 x9_1).f1]):=⟨_,rfl⟩
 replace H:(impl_curvatures.l0 k1 y_b l0 (l0.length:Int) (wrap64 (x9_1+1)))=some r:=Z14
 have Ny_b:=am hy_b
 clear hy_b
 have H':=am H
 clear H
 have p407:0≤(x9_1:Int):=of_decide_eq_true Z5
 have q407:x9_1<(l0.length:Int):=of_decide_eq_true Z5
 obtain⟨ad407,e407,hx407_0,hx407_1,hx407_2,hx407_3⟩:=at_T37 HR0.1 x9_1 p407 q407
 cases e407
 replace hx407_0:=(HB.1.cell (World.block_lt_of_cell? w _ hx407_0)).trans hx407_0
 replace hx407_1:=(HB.1.cell (World.block_lt_of_cell? w _ hx407_1)).trans hx407_1
 replace hx407_2:=(HB.1.cell (World.block_lt_of_cell? w _ hx407_2)).trans hx407_2
 replace hx407_3:=(HB.1.cell (World.block_lt_of_cell? w _ hx407_3)).trans hx407_3
 replace p407:=eq_true p407
 replace q407:=eq_true q407
 go_wp2_with (first|((with_reducible refine gd_ 5 rfl ?_);refine boxN_ 5 #[.int .i64 0,.int .i64 0,.int .i64 0,.int .i64 0] 37 ?_;intro gboa hg w8 hbox hb;replace HO_3:=am (Kd.R_below (Z1 HO_3) hb);have BKoa:=am hbox;have GWoa:=gG_ hg;have GEoa:=gG_ hg;replace HB:=bw_ hb;clear hb hbox hg;obtain⟨_,_,_,_,_,_,_,_⟩:=cz4_ BKoa)|((with_reducible refine gate_builtin (b:= .append) (xs:=#[.tmp 13,.tmp 16]) rfl ?_);at_builtin;refine Kd.R_append (Kd.int .i64) (w0:=w) w.heap.size rfl (.tmp 13) (.tmp 16) 30 3 (.int .i64 0) 8 rfl Tryz.underlying30 info3 rfl (by decide) (by omega) u3 x3_1 ((rd_T37 l0 x9_1).f1) [.int .i64 ((rd_T37 l0 x9_1).f1)] (fun _=>True) (fun _=>False) rfl Z56 ?aP (fun _ hk=>hk.elim) ?aF ?aO ?aB ?aS ?aL ?_;(case aP=>exact rfl);(case aB=>exact ZB);(case aF=>exact(fun _ _=>trivial));(case aO=>exact(by(with_reducible repeat(first|apply Kd.R_alloc|apply Kd.R_drewN|apply Kd.R_drew));exact Kd.R_mono (Kd.R_far (p:=⟨gboa,3,none⟩) (Kd.R_far (p:=⟨gboa,2,none⟩) (Kd.R_far (p:=⟨gboa,1,none⟩) (Kd.R_far (p:=⟨gboa,0,none⟩) (Kd.R_types HO_3.1 BKoa.1 (by decide)) (fun _ hk=>hk.2) (.int .i64 ((rd_T37 l0 x9_1).f0))) (fun _ hk=>hk.2) (.int .i64 ((rd_T37 l0 x9_1).f1))) (fun _ hk=>hk.2) (.int .i64 ((rd_T37 l0 x9_1).f2))) (fun _ hk=>hk.2) (.int .i64 ((rd_T37 l0 x9_1).f3))) (fun _ hk=>trivial)));(case aS=>exact zs_);(case aL=>have:=LMc7.out;omega);intro v410 w10 ho hb hg hat;rw[←Ny_b.1]at ho;replace BKoa:=am (blk_grown (bb_ BKoa) hg (Kd.R_ne HO_3.1 BKoa.1 (by decide)));replace HB:=am hb;have HOoc:=am ho;clear HO_3;clear ho hb hg hat))
 go_roundg k1
 case measure=>have:=HK1.1;omega
 exact⟨(y_b),(wrap64 (x9_1+1)),Z7,H',⟨Z34⟩,⟨(Z1 HOoc)⟩,⟨ZB⟩⟩
def impl_sumOf.l0:Nat→Int→List Int→Int→Int→Option (Int)
  |0,_,_,_,_=>none
  |k+1,x3,x6,x7,x8=>if x8<x7 then(if 0≤x8 then(if x8<(x6.length:Int)then(impl_sumOf.l0 k (wrap64 (x3+(rd x6 x8))) x6 x7 (wrap64 (x8+1)))else(none))else(none))else(some x3)
def impl_sumOf.f (k:Nat) (l0:List Int):Option (Int):=impl_sumOf.l0 k 0 l0 (l0.length:Int) 0
theorem impl_sumOf.mono_l:∀k,(∀y0 y1 y2 y3,LeO (impl_sumOf.l0 k y0 y1 y2 y3) (impl_sumOf.l0 (k+1) y0 y1 y2 y3))
  |0=>fun _ _ _ _ r h=>by simp[impl_sumOf.l0]at h
  |k+1=>by
    have ih0:=impl_sumOf.mono_l k
    · intro y0 y1 y2 y3
      unfold impl_sumOf.l0
      exact mo_
theorem impl_sumOf.mono:∀a0 k,LeO (impl_sumOf.f k a0) (impl_sumOf.f (k+1) a0):=by
  intro a0 k
  have ih0:=impl_sumOf.mono_l k
  unfold impl_sumOf.f
  exact mo_
set_option maxHeartbeats 8000000 in
set_option maxRecDepth 100000 in
theorem impl_sumOf.calls (k:Nat) (A0:Option Addr) (c0:Nat) (l0:List Int) (r:Int) (w:World) (hr0:Kd.C (Kd.int .i64) w A0 l0.length l0) (hc0:l0.length≤c0) (h:impl_sumOf.f k l0=some r):
  Calls Tryz.prog 71 #[.slice A0 l0.length c0] w fun e w'=>e= .returned (.int .i64 r)∧Drawn0 w w':=by
 have HR0:=am hr0
 have HC0:=am hc0
 clear hr0 hc0
 have H:(impl_sumOf.l0 k 0 l0 (l0.length:Int) 0)=some r:=h
 clear h
 have H':=am H
 clear H
 go_enter Tryz.func71,Tryz.ntmps71
 go_wp2
 go_loopg [3,8] k (fun kq v3 v8 w'=>∃(x3_1:Int) (x8_1:Int),v3= .int .i64 x3_1∧v8= .int .i64 x8_1∧Aside0 (impl_sumOf.l0 kq x3_1 l0 (l0.length:Int) x8_1=some r)∧Aside0 (kq≤k)∧Drawn0 w w')
 case atStart=>exact⟨(0),(0),Z7,Z7,H',⟨Nat.le_refl _⟩,Z16⟩
 clear H'
 obtain⟨x3_1,x8_1,rfl,rfl,HA,HK1,⟨m1,rfl⟩⟩:=hrel
 obtain _|k1:=gk
 ·
  exact absurd HA.out (by simp[impl_sumOf.l0])
 have H:=HA.out
 clear HA
 simp only[impl_sumOf.l0]at H
 by_cases c2:x8_1<(l0.length:Int)
 rotate_left
 ·
  rw[if_neg c2]at H
  have c2b0:=decide_eq_false c2
  clear c2
  obtain rfl:=Option.some.inj H
  go_wp2
  go_ret
  exact⟨Z7,Z16⟩
 rw[if_pos c2]at H
 have c2b0:=decide_eq_true c2
 clear c2
 obtain⟨c3,H⟩:=ip_ H
 have c3b0:=decide_eq_true c3
 clear c3
 obtain⟨c4,H⟩:=ip_ H
 have c4b0:=decide_eq_true c4
 clear c4
 have H':=am H
 clear H
 have p412:0≤(x8_1:Int):=of_decide_eq_true Z5
 have q412:x8_1<(l0.length:Int):=of_decide_eq_true Z5
 obtain⟨ad412,e412,hx412_0⟩:=Kd.at_int HR0.1 x8_1 p412 q412
 cases e412
 replace p412:=eq_true p412
 replace q412:=eq_true q412
 go_wp2
 go_roundg k1
 case measure=>have:=HK1.1;omega
 exact⟨(wrap64 (x3_1+(rd l0 x8_1))),(wrap64 (x8_1+1)),Z7,Z7,H',⟨Z34⟩,Z16⟩
def impl_dot.l0:Nat→List Int→Int→List Int→Int→Int→Option (Int)
  |0,_,_,_,_,_=>none
  |k+1,x1,x5,x8,x9,x10=>if x10<x9 then(if 0≤x10 then(if x10<(x8.length:Int)then(if x10<(x1.length:Int)then(impl_dot.l0 k x1 (wrap64 (x5+(wrap64 ((rd x8 x10)*(rd x1 x10))))) x8 x9 (wrap64 (x10+1)))else(none))else(none))else(none))else(some x5)
def impl_dot.f (k:Nat) (l0:List Int) (l1:List Int):Option (Int):=impl_dot.l0 k l1 0 l0 (l0.length:Int) 0
theorem impl_dot.mono_l:∀k,(∀y0 y1 y2 y3 y4,LeO (impl_dot.l0 k y0 y1 y2 y3 y4) (impl_dot.l0 (k+1) y0 y1 y2 y3 y4))
  |0=>fun _ _ _ _ _ r h=>by simp[impl_dot.l0]at h
  |k+1=>by
    have ih0:=impl_dot.mono_l k
    · intro y0 y1 y2 y3 y4
      unfold impl_dot.l0
      exact mo_
theorem impl_dot.mono:∀a0 a1 k,LeO (impl_dot.f k a0 a1) (impl_dot.f (k+1) a0 a1):=by
  intro a0 a1 k
  have ih0:=impl_dot.mono_l k
  unfold impl_dot.f
  exact mo_
set_option maxHeartbeats 8000000 in
set_option maxRecDepth 100000 in
theorem impl_dot.calls (k:Nat) (A0:Option Addr) (c0:Nat) (l0:List Int) (A1:Option Addr) (c1:Nat) (l1:List Int) (r:Int) (w:World) (hr0:Kd.C (Kd.int .i64) w A0 l0.length l0) (hc0:l0.length≤c0) (hr1:Kd.C (Kd.int .i64) w A1 l1.length l1) (hc1:l1.length≤c1) (h:impl_dot.f k l0 l1=some r):
  Calls Tryz.prog 72 #[.slice A0 l0.length c0,.slice A1 l1.length c1] w fun e w'=>e= .returned (.int .i64 r)∧Drawn0 w w':=by
 have HR0:=am hr0
 have HC0:=am hc0
 clear hr0 hc0
 have HR1:=am hr1
 have HC1:=am hc1
 clear hr1 hc1
 have H:(impl_dot.l0 k l1 0 l0 (l0.length:Int) 0)=some r:=h
 clear h
 have H':=am H
 clear H
 go_enter Tryz.func72,Tryz.ntmps72
 go_wp2
 go_loopg [5,10] k (fun kq v5 v10 w'=>∃(x5_1:Int) (x10_1:Int),v5= .int .i64 x5_1∧v10= .int .i64 x10_1∧Aside0 (impl_dot.l0 kq l1 x5_1 l0 (l0.length:Int) x10_1=some r)∧Aside0 (kq≤k)∧Drawn0 w w')
 case atStart=>exact⟨(0),(0),Z7,Z7,H',⟨Nat.le_refl _⟩,Z16⟩
 clear H'
 obtain⟨x5_1,x10_1,rfl,rfl,HA,HK1,⟨m1,rfl⟩⟩:=hrel
 obtain _|k1:=gk
 ·
  exact absurd HA.out (by simp[impl_dot.l0])
 have H:=HA.out
 clear HA
 simp only[impl_dot.l0]at H
 by_cases c3:x10_1<(l0.length:Int)
 rotate_left
 ·
  rw[if_neg c3]at H
  have c3b0:=decide_eq_false c3
  clear c3
  obtain rfl:=Option.some.inj H
  go_wp2
  go_ret
  exact⟨Z7,Z16⟩
 rw[if_pos c3]at H
 have c3b0:=decide_eq_true c3
 clear c3
 obtain⟨c4,H⟩:=ip_ H
 have c4b0:=decide_eq_true c4
 clear c4
 obtain⟨c5,H⟩:=ip_ H
 have c5b0:=decide_eq_true c5
 clear c5
 obtain⟨c6,H⟩:=ip_ H
 have c6b0:=decide_eq_true c6
 clear c6
 have H':=am H
 clear H
 have p413:0≤(x10_1:Int):=of_decide_eq_true Z5
 have q413:x10_1<(l0.length:Int):=of_decide_eq_true Z5
 obtain⟨ad413,e413,hx413_0⟩:=Kd.at_int HR0.1 x10_1 p413 q413
 cases e413
 replace p413:=eq_true p413
 replace q413:=eq_true q413
 have p414:0≤(x10_1:Int):=of_decide_eq_true Z5
 have q414:x10_1<(l1.length:Int):=of_decide_eq_true Z5
 obtain⟨ad414,e414,hx414_0⟩:=Kd.at_int HR1.1 x10_1 p414 q414
 cases e414
 replace p414:=eq_true p414
 replace q414:=eq_true q414
 go_wp2
 go_roundg k1
 case measure=>have:=HK1.1;omega
 exact⟨(wrap64 (x5_1+(wrap64 ((rd l0 x10_1)*(rd l1 x10_1))))),(wrap64 (x10_1+1)),Z7,Z7,H',⟨Z34⟩,Z16⟩
def impl_IsQuad.j0:Nat→List Int→Bool→Option (Bool)
  |0,_,_=>none
  |k+1,x0,x11=>if x11=true then(some false)else((impl_sumOf.f k x0).bind fun t416=>(if t416>0 then((impl_dot.f k x0 x0).bind fun t417=>(some ((wrap64 (2*t417))==(wrap64 (t416*t416)))))else(some false)))
def impl_IsQuad.f (k:Nat) (l0:List Int):Option (Bool):=if(l0.length:Int)=4 then((impl_allWithin.f l0 (-100000) 100000).bind fun t415=>(impl_IsQuad.j0 k l0 (!t415)))else(impl_IsQuad.j0 k l0 true)
theorem impl_IsQuad.mono_l:∀k,(∀y0 y1,LeO (impl_IsQuad.j0 k y0 y1) (impl_IsQuad.j0 (k+1) y0 y1))
  |0=>fun _ _ r h=>by simp[impl_IsQuad.j0]at h
  |k+1=>by
    have ih0:=impl_IsQuad.mono_l k
    · intro y0 y1
      unfold impl_IsQuad.j0
      exact mo_
theorem impl_IsQuad.mono:∀a0 k,LeO (impl_IsQuad.f k a0) (impl_IsQuad.f (k+1) a0):=by
  intro a0 k
  have ih0:=impl_IsQuad.mono_l k
  unfold impl_IsQuad.f
  exact mo_
set_option maxHeartbeats 8000000 in
set_option maxRecDepth 100000 in
theorem impl_IsQuad.calls (k:Nat) (A0:Option Addr) (c0:Nat) (l0:List Int) (r:Bool) (w:World) (hr0:Kd.C (Kd.int .i64) w A0 l0.length l0) (hc0:l0.length≤c0) (h:impl_IsQuad.f k l0=some r):
  Calls Tryz.prog 35 #[.slice A0 l0.length c0] w fun e w'=>e= .returned (.bool r)∧Below w.heap.size w w':=by
 have HR0:=am hr0
 have HC0:=am hc0
 clear hr0 hc0
 have HB:=am (Below.refl w.heap.size w)
 have H:=h
 clear h
 unfold impl_IsQuad.f at H
 have HC2:=am H
 clear H
 go_enter Tryz.func35,Tryz.ntmps35
 go_upto_region 1 with(fail)
 go_cut[11] (fun v11 wc=>∃(kq:Nat) (x11_1:Bool),v11= .bool x11_1∧Aside0 (impl_IsQuad.j0 kq l0 x11_1=some r)∧Aside0 (kq≤k)∧Aside0 (Below w.heap.size w wc))
 case first=>
  have H:=HC2.1
  clear HC2
  by_cases c3:(l0.length:Int)=4
  rotate_left
  ·
   rw[if_neg c3]at H
   obtain⟨c3b0,c3b1⟩:=ne2_ c3
   (first|rw[c3b0]|(simp only[i64_w,i32_w];rw[c3b0])|rw[c3b1]|skip)
   have H':=am H
   clear H
   go_wp2
   go_meet
   exact⟨_,(true),Z7,H',⟨Z35⟩,⟨ZB⟩⟩
  rw[if_pos c3]at H
  obtain⟨c3b0,c3b1⟩:=eq2_ c3
  clear c3
  (first|rw[c3b0]|(simp only[i64_w,i32_w];rw[c3b0])|rw[c3b1]|skip)
  obtain⟨t415,A4,H⟩:=bs_ H
  try dsimp only at H
  have H':=am H
  clear H
  go_wp2_with (first|(go_at_call 51;(with_reducible refine(impl_allWithin.calls _ _ l0 (-100000) 100000 t415 _ ?side1 ?side2 A4.1).mono ?_);(case side1=>exact(Z15 HR0));(case side2=>exact HC0.1);rintro e w5 ⟨rfl,hb⟩;replace HB:=bw_ hb;clear hb))
  go_meet
  exact⟨_,(!t415),Z7,H',⟨Z35⟩,⟨ZB⟩⟩
 clear HC2
 obtain⟨kq,x11_1,rfl,HA,HJ1,HB⟩:=hcut
 obtain _|kj1:=kq
 ·
  exact absurd HA.out (by simp[impl_IsQuad.j0])
 have H:=HA.out
 clear HA
 simp only[impl_IsQuad.j0]at H
 by_cases c6:x11_1=true
 ·
  subst c6
  rw[if_pos rfl]at H
  obtain rfl:=Option.some.inj H
  go_wp2
  go_ret
  exact⟨Z6,ZB⟩
 replace c6:=Bool.eq_false_iff.mpr c6
 subst c6
 rw[if_neg (show¬(false=true) by decide)]at H
 obtain⟨t416,A7,H⟩:=bs_ H
 try dsimp only at H
 by_cases c8:t416>0
 rotate_left
 ·
  rw[if_neg c8]at H
  have c8b0:decide (0<t416)=false:=decide_eq_false c8
  clear c8
  obtain rfl:=Option.some.inj H
  go_wp2_with (first|((with_reducible refine gc_ 71 rfl ?_);refine goesN_ 71 (some 13) Tryz.func71 #[.slice A0 l0.length c0] ?_;(with_reducible refine(impl_sumOf.calls kj1 _ _ l0 t416 _ ?side1 ?side2 A7.1).mono ?_);(case side1=>exact(Z15 HR0));(case side2=>exact HC0.1);rintro e w' ⟨rfl,⟨nd,rfl⟩⟩;refine⟨_,rfl,?_⟩))
  go_ret
  exact⟨Z6,ZB⟩
 rw[if_pos c8]at H
 have c8b0:decide (0<t416)=true:=decide_eq_true c8
 clear c8
 obtain⟨t417,A9,H⟩:=bs_ H
 try dsimp only at H
 obtain rfl:=Option.some.inj H
 go_wp2_with (first|((with_reducible refine gc_ 71 rfl ?_);refine goesN_ 71 (some 13) Tryz.func71 #[.slice A0 l0.length c0] ?_;(with_reducible refine(impl_sumOf.calls kj1 _ _ l0 t416 _ ?side1 ?side2 A7.1).mono ?_);(case side1=>exact(Z15 HR0));(case side2=>exact HC0.1);rintro e w' ⟨rfl,⟨nd,rfl⟩⟩;refine⟨_,rfl,?_⟩)|(go_at_call 72;(with_reducible refine(impl_dot.calls kj1 _ _ l0 _ _ l0 t417 _ ?side1 ?side2 ?side3 ?side4 A9.1).mono ?_);(case side1=>exact(by repeat(first|exact(Kd.C_below HR0.1 ZB)|(with_reducible refine Kd.C_alloc ?_ _)|(with_reducible refine Kd.C_drewN ?_ _)|(with_reducible refine Kd.C_drew ?_))));(case side2=>exact HC0.1);(case side3=>exact(by repeat(first|exact(Kd.C_below HR0.1 ZB)|(with_reducible refine Kd.C_alloc ?_ _)|(with_reducible refine Kd.C_drewN ?_ _)|(with_reducible refine Kd.C_drew ?_))));(case side4=>exact HC0.1);rintro e w' ⟨rfl,⟨nd,rfl⟩⟩))
 go_ret
 exact⟨Z6,ZB⟩
def slices_Clone_int_int.f (l0:List Int):Option (List Int):=if l0.length<17592186044416 then some l0 else none
set_option maxHeartbeats 4000000 in
theorem slices_Clone_int_int.calls (A0:Option Addr) (c0:Nat) (l0:List Int) (r:List Int) (w:World) (hr0:Kd.C (Kd.int .i64) w A0 l0.length l0) (hc0:l0.length≤c0) (h:slices_Clone_int_int.f l0=some r):
  Calls Tryz.prog 49 #[.slice A0 l0.length c0] w fun e w'=>∃v0_:Value,e= .returned (v0_)∧Kd.R (Kd.int .i64) 3 w' w.heap.size (fun _=>True) v0_ r∧Below w.heap.size w w':=by
 have hl:l0.length<17592186044416∧l0=r:=by
  unfold slices_Clone_int_int.f at h
  split at h
  ·
   exact⟨Z31,Option.some.inj h⟩
  cases h
 obtain⟨hl,rfl⟩:=hl
 clear h
 have HR0:=am hr0
 have hE:∀(W:World) (A:Option Addr) (n c:Nat),(binOp .eql 30 (.slice A n c) (.slice none 0 0)).run Tryz.prog W= .ok (.bool A.isNone) W:=fun W A n c=>Lib.run_eql_slice_nil W 30 3 A n c 0 0 Tryz.underlying30
 have HL:=am hl
 have hm:=hr0.2.2
 rcases A0 with _|ad
 ·
  have h0:l0=[]:=by
   rcases l0 with _|⟨x,l⟩
   ·
    rfl
   obtain⟨ad,e,_⟩:=hm (by simp)
   cases e
  subst h0
  clear hm hr0 hl
  go_enter Tryz.func49,Tryz.ntmps49
  go_wp2
  go_ret
  exact⟨_,rfl,Kd.R_nil (Kd.int .i64) 3 _ _ _,Below.refl _ _⟩
 clear hm hr0 hl
 go_enter Tryz.func49,Tryz.ntmps49
 go_wp2_with (first|((with_reducible refine gd_ 5 rfl ?_);refine Kd.R_lit (Kd.int .i64) _ 3 ?hg (N:=5) ?hd (xs:=([]:List Int)) (inner:=[]) (ok:=fun _=>True) (okp:=fun _=>True) ?hr ?hp (fun _ hk=>hk) trivial (Below.refl _ _) (Nat.le_refl _) (by simp) ?_;(case hd=>rfl);(case hg=>rfl);(case hr=>first|(go_simp;done)|(go_simp;rfl));(case hp=>exact(Reps.none _ _));intro v1 w2 ho3 hb hg_ hnew_;clear hg_ hnew_;have HO:=am ho3;have HB:=am hb;have HRb:=am (Kd.C_below HR0.1 hb);clear ho3 hb HR0)|((with_reducible refine gate_builtin (b:= .append) (xs:=#[.tmp 5,.tmp 6]) rfl ?_);at_builtin;refine Kd.R_append_row (w0:=w) (Value.int .i64) (0:Int) (h1:=fun _=>rfl) w.heap.size rfl (.tmp 5) (.tmp 6) 30 3 (.int .i64 0) 8 rfl Tryz.underlying30 info3 rfl (by decide) v1 ([]:List Int) l0 (some ad) l0.length c0 (fun _=>True) rfl rfl (fun _ _=>trivial) HO.1 HRb.1 HB.1 HB.1.size ?aL ?_;(case aL=>have:=HL.1;simp only[List.length_nil];omega);intro v2 w3 ho hb hg hat;clear HO HB HRb hg hat;have HO:=am ho;have HB:=am hb;clear ho hb))
 go_ret
 exact⟨_,rfl,HO.1,HB.1⟩
def impl_swapped.f (k:Nat) (l0:List Int) (a1:Int):Option (List Int):=(slices_Clone_int_int.f l0).bind fun t418=>((impl_sumOf.f k l0).bind fun t421=>(if 0≤a1 then(if a1<(l0.length:Int)then(if a1<(t418.length:Int)then(some (t418.set (a1:Int).toNat (wrap64 ((wrap64 (2*(wrap64 (t421-(rd l0 a1)))))-(rd l0 a1)))))else(none))else(none))else(none)))
theorem impl_swapped.mono:∀a0 a1 k,LeO (impl_swapped.f k a0 a1) (impl_swapped.f (k+1) a0 a1):=by
  intro a0 a1 k
  unfold impl_swapped.f
  exact mo_
def impl_swapped.T2:Bool × List (List Nat × List Nat):=(true,[([],[]),([],[]),([],[]),([2],[2]),([],[]),([],[]),([4,5],[4,5]),([6],[6]),([3,7],[3,7]),([8],[8]),([],[]),([],[]),([10,11],[10,11]),([12],[12]),([9,13],[9,13]),([0,1,0,1,2,3,4,5,6,7,8,9,10,11,12,13,14],[0,1]),([15,14,3,0,1,2,3,4,5,6,7,8,9,10,11,12,13,14],[14,15])])
def impl_swapped.B2:List Nat:=[0,0,0,4,0,0,48,112,252,508,0,0,3072,7168,16380,32767,65535]
theorem impl_swapped.tab2:rtab .any (opsOf Tryz.f73 2)=impl_swapped.T2:=by kernel_rfl
theorem impl_swapped.bits2:waitsOk impl_swapped.T2.2 impl_swapped.B2=true:=by kernel_rfl
set_option maxHeartbeats 8000000 in
set_option maxRecDepth 100000 in
theorem impl_swapped.calls (k:Nat) (A0:Option Addr) (c0:Nat) (l0:List Int) (a1:Int) (r:List Int) (w:World) (hr0:Kd.C (Kd.int .i64) w A0 l0.length l0) (hc0:l0.length≤c0) (h:impl_swapped.f k l0 a1=some r):
  Calls Tryz.prog 73 #[.slice A0 l0.length c0,.int .i64 a1] w fun e w'=>∃v0_:Value,e= .returned (v0_)∧Kd.R (Kd.int .i64) 3 w' w.heap.size (fun _=>True) v0_ r∧Below w.heap.size w w':=by
 have HR0:=am hr0
 have HC0:=am hc0
 clear hr0 hc0
 have HB:=am (Below.refl w.heap.size w)
 have H:=h
 clear h
 unfold impl_swapped.f at H
 obtain⟨t418,A3,H⟩:=bs_ H
 try dsimp only at H
 obtain⟨t421,A4,H⟩:=bs_ H
 try dsimp only at H
 obtain⟨c5,H⟩:=ip_ H
 have c5b0:=decide_eq_true c5
 clear c5
 obtain⟨c6,H⟩:=ip_ H
 have c6b0:=decide_eq_true c6
 clear c6
 obtain⟨c7,H⟩:=ip_ H
 have c7b0:=decide_eq_true c7
 clear c7
 obtain⟨y_a,hy_a⟩:∃y_:List Int,y_=(t418.set (a1:Int).toNat (wrap64 ((wrap64 (2*(wrap64 (t421-(rd l0 a1)))))-(rd l0 a1)))):=⟨_,rfl⟩
 replace H:(some y_a)=some r:=Z8
 have Ny_a:=am hy_a
 clear hy_a
 obtain rfl:=Option.some.inj H
 go_enter Tryz.func73,Tryz.ntmps73
 try go_wp2_with (first|((with_reducible refine gc_ 49 rfl ?_);refine gE_ (some 7) Tryz.func49 (slices_Clone_int_int.calls _ _ l0 t418 _ ?side1 ?side2 A3.1) ?_;(case side1=>exact(Z11 HR0));(case side2=>exact HC0.1);rintro v419 w9 ⟨ho0,hb⟩;have HOob:=am (Kd.R_lower ho0 zs_);replace HB:=bw_ hb;clear hb;(try clear ho0)))
 have n0_:=am (Kd.R_drew HOob.1)
 have n1_:=am (below_drew1 HB.1)
 clear HOob
 clear HB
 have HOob:=n0_
 have HB:=n1_
 clear n0_ n1_
 have p422:0≤(a1:Int):=of_decide_eq_true Z5
 have q422:a1<(l0.length:Int):=of_decide_eq_true Z5
 obtain⟨ad422,e422,hx422_0⟩:=Kd.at_int HR0.1 a1 p422 q422
 have hw422_0:=hx422_0
 cases e422
 replace hx422_0:=(HB.1.cell (World.block_lt_of_cell? w _ hx422_0)).trans hx422_0
 replace p422:=eq_true p422
 replace q422:=eq_true q422
 have p423:0≤(a1:Int):=of_decide_eq_true Z5
 have q423:a1<(l0.length:Int):=of_decide_eq_true Z5
 obtain⟨ad423,e423,hx423_0⟩:=Kd.at_int HR0.1 a1 p423 q423
 have hw423_0:=hx423_0
 obtain rfl:ad422=ad423:=(by injection e423)
 replace hx423_0:=(HB.1.cell (World.block_lt_of_cell? w _ hx423_0)).trans hx423_0
 replace p423:=eq_true p423
 replace q423:=eq_true q423
 refine start_ (n:=17) (S:=fun w'=>w'.cell? (ad422.add (a1).toNat)=some (.int .i64 (rd l0 a1))∧w'.cell? (ad422.add (a1).toNat)=some (.int .i64 (rd l0 a1))) (ds:=[16]) M2 Z19 rfl rfl ⟨((HB.1.cell (World.block_lt_of_cell? w _ hw422_0)).trans hw422_0),((HB.1.cell (World.block_lt_of_cell? w _ hw423_0)).trans hw423_0)⟩ (fun hHeld=>?_);refine with_tabW impl_swapped.tab2 impl_swapped.bits2 (fun HT_ HW_=>?_)
 generalize w9.drew=w10 at HOob HB hx422_0 hx423_0 hHeld ⊢
 refine pury_ 0 8 M10 HT_ ?_
 refine pury_ 1 9 M13 HT_ ?_
 refine pury_ 2 10 M27 HT_ ?_
 refine pury_ 4 12 M28 HT_ ?_
 refine pury_ 5 13 M29 HT_ ?_
 refine pury_ 6 14 M30 HT_ ?_
 refine pury_ 10 18 M31 HT_ ?_
 refine pury_ 11 19 M32 HT_ ?_
 refine pury_ 12 20 M33 HT_ ?_
 refine taky2_ 7 15 M35 HT_ HW_ hHeld ?_
 refine taky2_ 13 21 M36 HT_ HW_ hHeld ?_
 refine one_ (i:=3) (N:=some 11) M46 rfl rfl (one_of HT_.out Z19) (by decide) (fun K hK=>?_)
 refine goes_ Tryz.func71 Z19 rfl #[.slice (some ad422) l0.length c0] (by rfl) rfl rfl Z18 ?_
 with_reducible refine(impl_sumOf.calls k _ _ l0 t421 _ ?side1 ?side2 A4.1).mono ?_
 (case side1=>exact(Z15 HR0))
 (case side2=>exact HC0.1)
 rintro e w' ⟨rfl,⟨nd,rfl⟩⟩
 refine⟨_,rfl,?_⟩
 have p8:0≤(a1:Int):=of_decide_eq_true Z5
 have q8:(a1:Int)<((t418.length:Int):Int):=of_decide_eq_true Z5
 obtain⟨go8,co8,eo8,gboa,gl8,cl8,HG8⟩:=Kd.R_form HOob.1 (by omega)
 (first|cases eo8|(injection eo8 with ea_ en_ ec_;(first|subst ea_|(injection ea_ with ea_;subst ea_));subst ec_;clear en_))
 have GB8:=am gboa
 have GG8:=am HG8
 clear gboa gl8 HG8
 obtain⟨hx8_0,hf8_0⟩:=Kd.R_celln 0 HOob.1 (a1:Int) p8 q8
 replace p8:=eq_true p8
 replace q8:=eq_true q8
 have HP11:=Kd.R_putn HOob.1 (a1:Int) (wrap64 ((wrap64 (2*(wrap64 (t421-(rd l0 a1)))))-(rd l0 a1)))
 rw[←Ny_a.1]at HP11
 have HQ11:=am HP11
 clear HP11
 refine hK.out _ _ ⟨((HB.1.cell (World.block_lt_of_cell? w _ hw422_0)).trans hw422_0),((HB.1.cell (World.block_lt_of_cell? w _ hw423_0)).trans hw423_0)⟩ (fun hHeld=>?_)
 clear hK K
 refine norm_ (a':=?_) ?_ ?_
 rotate_left
 ·
  show Act.put _ (some 11) _=_
  simp only[Act.put,List.setIfInBounds_toArray,List.set_cons_zero,List.set_cons_succ,i64_w,i32_w]
  rfl
 refine pury_ 8 16 M49 HT_ ?_
 refine pury_ 9 17 M56 HT_ ?_
 refine pury_ 14 22 M60 HT_ ?_
 refine pury_ 15 23 M62 HT_ ?_
 refine last_ (i:=16) (N:=none) M66 rfl rfl (one_of HT_.out Z19) (by decide) (fun K hK=>?_)
 refine skip_ (w1:=?_) (by rfl) rfl ?_ ?_
 rotate_left
 ·
  go_simp
  rfl
 refine hK.out _ _ ?_
 clear hK K
 refine done_ (done_of HT_.out Z19) ?_
 try go_wp2
 go_ret
 exact⟨_,Z6,(by(with_reducible repeat(first|apply Kd.R_alloc|apply Kd.R_drewN|apply Kd.R_drew));exact HQ11.out),(by repeat(first|(with_reducible first|exact HB.1|apply below_alloc|apply pw_below_drewN|apply below_drew1|refine below_set ?_ GB8.out)|exact HB.1))⟩
def impl_isRoot.l0:Nat→List Int→List Int→Int→Int→Option (Bool)
  |0,_,_,_,_=>none
  |k+1,x0,x5,x6,x7=>if x7<x6 then(if 0≤x7 then(if x7<(x5.length:Int)then((impl_swapped.f k x0 x7).bind fun t426=>(if x7<(t426.length:Int)then(if(rd t426 x7)<(rd x5 x7)then(some false)else(impl_isRoot.l0 k x0 x5 x6 (wrap64 (x7+1))))else(none)))else(none))else(none))else(some true)
def impl_isRoot.f (k:Nat) (l0:List Int):Option (Bool):=impl_isRoot.l0 k l0 l0 (l0.length:Int) 0
theorem impl_isRoot.mono_l:∀k,(∀y0 y1 y2 y3,LeO (impl_isRoot.l0 k y0 y1 y2 y3) (impl_isRoot.l0 (k+1) y0 y1 y2 y3))
  |0=>fun _ _ _ _ r h=>by simp[impl_isRoot.l0]at h
  |k+1=>by
    have ih0:=impl_isRoot.mono_l k
    · intro y0 y1 y2 y3
      unfold impl_isRoot.l0
      exact mo_
theorem impl_isRoot.mono:∀a0 k,LeO (impl_isRoot.f k a0) (impl_isRoot.f (k+1) a0):=by
  intro a0 k
  have ih0:=impl_isRoot.mono_l k
  unfold impl_isRoot.f
  exact mo_
set_option maxHeartbeats 8000000 in
set_option maxRecDepth 100000 in
theorem impl_isRoot.calls (k:Nat) (A0:Option Addr) (c0:Nat) (l0:List Int) (r:Bool) (w:World) (hr0:Kd.C (Kd.int .i64) w A0 l0.length l0) (hc0:l0.length≤c0) (h:impl_isRoot.f k l0=some r):
  Calls Tryz.prog 36 #[.slice A0 l0.length c0] w fun e w'=>e= .returned (.bool r)∧Below w.heap.size w w':=by
 have HR0:=am hr0
 have HC0:=am hc0
 clear hr0 hc0
 have HB:=am (Below.refl w.heap.size w)
 have H:(impl_isRoot.l0 k l0 l0 (l0.length:Int) 0)=some r:=h
 clear h
 have H':=am H
 clear H
 go_enter Tryz.func36,Tryz.ntmps36
 go_wp2
 go_loopg [7] k (fun kq v7 w'=>∃(x7_1:Int),v7= .int .i64 x7_1∧Aside0 (impl_isRoot.l0 kq l0 l0 (l0.length:Int) x7_1=some r)∧Aside0 (kq≤k)∧Aside0 (Below w.heap.size w w'))
 case atStart=>exact⟨(0),Z7,H',⟨Nat.le_refl _⟩,⟨ZB⟩⟩
 clear H'
 obtain⟨x7_1,rfl,HA,HK1,HB⟩:=hrel
 obtain _|k1:=gk
 ·
  exact absurd HA.out (by simp[impl_isRoot.l0])
 have H:=HA.out
 clear HA
 simp only[impl_isRoot.l0]at H
 by_cases c2:x7_1<(l0.length:Int)
 rotate_left
 ·
  rw[if_neg c2]at H
  have c2b0:=decide_eq_false c2
  clear c2
  obtain rfl:=Option.some.inj H
  go_wp2
  go_ret
  exact⟨Z6,ZB⟩
 rw[if_pos c2]at H
 have c2b0:=decide_eq_true c2
 clear c2
 obtain⟨c3,H⟩:=ip_ H
 have c3b0:=decide_eq_true c3
 clear c3
 obtain⟨c4,H⟩:=ip_ H
 have c4b0:=decide_eq_true c4
 clear c4
 obtain⟨t426,A5,H⟩:=bs_ H
 try dsimp only at H
 obtain⟨c6,H⟩:=ip_ H
 have c6b0:=decide_eq_true c6
 clear c6
 by_cases c7:(rd t426 x7_1)<(rd l0 x7_1)
 ·
  rw[if_pos c7]at H
  have c7b0:=decide_eq_true c7
  clear c7
  obtain rfl:=Option.some.inj H
  have p425:0≤(x7_1:Int):=of_decide_eq_true Z5
  have q425:x7_1<(l0.length:Int):=of_decide_eq_true Z5
  obtain⟨ad425,e425,hx425_0⟩:=Kd.at_int HR0.1 x7_1 p425 q425
  cases e425
  replace hx425_0:=(HB.1.cell (World.block_lt_of_cell? w _ hx425_0)).trans hx425_0
  replace p425:=eq_true p425
  replace q425:=eq_true q425
  go_wp2_with (first|((with_reducible refine gc_ 73 rfl ?_);refine gE_ (some 14) Tryz.func73 (impl_swapped.calls k1 _ _ l0 x7_1 t426 _ ?side1 ?side2 A5.1) ?_;(case side1=>exact(Z15 HR0));(case side2=>exact HC0.1);rintro v427 w8 ⟨ho0,hb⟩;have HOoa:=am (Kd.R_lower ho0 zs_);replace HB:=bw_ hb;clear hb;(try clear ho0);obtain⟨Ao9,co9,eo9⟩:=Kd.R_slice HOoa.1;subst eo9;have p429:0≤(x7_1:Int):=of_decide_eq_true Z5;have q429:x7_1<(t426.length:Int):=of_decide_eq_true Z5;obtain⟨ad429,e429,hx429_0⟩:=Kd.at_int (Kd.R_reads' HOoa.1).2.2 x7_1 p429 q429;cases e429;replace p429:=eq_true p429;replace q429:=eq_true q429))
  go_ret
  exact⟨Z6,ZB⟩
 rw[if_neg c7]at H
 have c7b0:=decide_eq_false c7
 clear c7
 have H':=am H
 clear H
 have p425:0≤(x7_1:Int):=of_decide_eq_true Z5
 have q425:x7_1<(l0.length:Int):=of_decide_eq_true Z5
 obtain⟨ad425,e425,hx425_0⟩:=Kd.at_int HR0.1 x7_1 p425 q425
 cases e425
 replace hx425_0:=(HB.1.cell (World.block_lt_of_cell? w _ hx425_0)).trans hx425_0
 replace p425:=eq_true p425
 replace q425:=eq_true q425
 go_wp2_with (first|((with_reducible refine gc_ 73 rfl ?_);refine gE_ (some 14) Tryz.func73 (impl_swapped.calls k1 _ _ l0 x7_1 t426 _ ?side1 ?side2 A5.1) ?_;(case side1=>exact(Z15 HR0));(case side2=>exact HC0.1);rintro v427 w10 ⟨ho0,hb⟩;have HOoa:=am (Kd.R_lower ho0 zs_);replace HB:=bw_ hb;clear hb;(try clear ho0);obtain⟨Ao11,co11,eo11⟩:=Kd.R_slice HOoa.1;subst eo11;have p429:0≤(x7_1:Int):=of_decide_eq_true Z5;have q429:x7_1<(t426.length:Int):=of_decide_eq_true Z5;obtain⟨ad429,e429,hx429_0⟩:=Kd.at_int (Kd.R_reads' HOoa.1).2.2 x7_1 p429 q429;cases e429;replace p429:=eq_true p429;replace q429:=eq_true q429))
 go_roundg k1
 case measure=>have:=HK1.1;omega
 exact⟨(wrap64 (x7_1+1)),Z7,H',⟨Z34⟩,⟨ZB⟩⟩
section
attribute [local go_sem high] eqA37
def laws_dCircles.l0:Nat→List (S37)→List (S37)→Int→Int→Option (Bool)
  |0,_,_,_,_=>none
  |k+1,x0,x1,x12,x13=>if x13<x12 then(if 0≤x13 then(if x13<(x0.length:Int)then(if x13<(x1.length:Int)then(if(!(((rd_T37 x0 x13).f0)==((rd_T37 x1 x13).f0))||(!(((rd_T37 x0 x13).f1)==((rd_T37 x1 x13).f1))||(!(((rd_T37 x0 x13).f2)==((rd_T37 x1 x13).f2))||(!(((rd_T37 x0 x13).f3)==((rd_T37 x1 x13).f3))))))=true then(some false)else(laws_dCircles.l0 k x0 x1 x12 (wrap64 (x13+1))))else(none))else(none))else(none))else(some true)
def laws_dCircles.f (k:Nat) (l0:List (S37)) (l1:List (S37)):Option (Bool):=if(l0.length:Int)=(l1.length:Int)then(laws_dCircles.l0 k l0 l1 (l0.length:Int) 0)else(some false)
theorem laws_dCircles.mono_l:∀k,(∀y0 y1 y2 y3,LeO (laws_dCircles.l0 k y0 y1 y2 y3) (laws_dCircles.l0 (k+1) y0 y1 y2 y3))
  |0=>fun _ _ _ _ r h=>by simp[laws_dCircles.l0]at h
  |k+1=>by
    have ih0:=laws_dCircles.mono_l k
    · intro y0 y1 y2 y3
      unfold laws_dCircles.l0
      exact mo_
theorem laws_dCircles.mono:∀a0 a1 k,LeO (laws_dCircles.f k a0 a1) (laws_dCircles.f (k+1) a0 a1):=by
  intro a0 a1 k
  have ih0:=laws_dCircles.mono_l k
  unfold laws_dCircles.f
  exact mo_
set_option maxHeartbeats 8000000 in
set_option maxRecDepth 100000 in
theorem laws_dCircles.calls (k:Nat) (A0:Option Addr) (c0:Nat) (l0:List (S37)) (A1:Option Addr) (c1:Nat) (l1:List (S37)) (r:Bool) (w:World) (hr0:Kd.C k37 w A0 l0.length l0) (hc0:l0.length≤c0) (hr1:Kd.C k37 w A1 l1.length l1) (hc1:l1.length≤c1) (h:laws_dCircles.f k l0 l1=some r):
  Calls Tryz.prog 8 #[.slice A0 l0.length c0,.slice A1 l1.length c1] w fun e w'=>e= .returned (.bool r)∧Drawn0 w w':=by
 have hu37:=Tryz.underlying37
 have HR0:=am hr0
 have HC0:=am hc0
 clear hr0 hc0
 have HR1:=am hr1
 have HC1:=am hc1
 clear hr1 hc1
 have H:=h
 clear h
 unfold laws_dCircles.f at H
 by_cases c3:(l0.length:Int)=(l1.length:Int)
 rotate_left
 ·
  rw[if_neg c3]at H
  obtain⟨c3b0,c3b1⟩:=ne2_ c3
  have c3b2:(l0.length==l1.length)=false:=by first|simpa using c3|(simp at c3 ⊢;omega)
  obtain rfl:=Option.some.inj H
  go_enter Tryz.func8,Tryz.ntmps8
  go_wp2
  repeat(go_quiet (fail);try go_wp2)
  go_ret
  exact⟨Z7,Z16⟩
 rw[if_pos c3]at H
 obtain⟨c3b0,c3b1⟩:=eq2_ c3
 have c3b2:(l0.length==l1.length)=true:=by first|simpa using c3|(simp at c3 ⊢;omega)
 clear c3
 have H':=am H
 clear H
 go_enter Tryz.func8,Tryz.ntmps8
 go_wp2
 repeat(go_quiet (fail);try go_wp2)
 go_loopg [13] k (fun kq v13 w'=>∃(x13_1:Int),v13= .int .i64 x13_1∧Aside0 (laws_dCircles.l0 kq l0 l1 (l0.length:Int) x13_1=some r)∧Aside0 (kq≤k)∧Drawn0 w w')
 case atStart=>exact⟨(0),Z7,H',⟨Nat.le_refl _⟩,Z16⟩
 clear H'
 obtain⟨x13_1,rfl,HA,HK1,⟨m1,rfl⟩⟩:=hrel
 obtain _|k1:=gk
 ·
  exact absurd HA.out (by simp[laws_dCircles.l0])
 have H:=HA.out
 clear HA
 simp only[laws_dCircles.l0]at H
 by_cases c4:x13_1<(l0.length:Int)
 rotate_left
 ·
  rw[if_neg c4]at H
  have c4b0:=decide_eq_false c4
  clear c4
  obtain rfl:=Option.some.inj H
  go_wp2
  repeat(go_quiet (fail);try go_wp2)
  go_ret
  exact⟨Z7,Z16⟩
 rw[if_pos c4]at H
 have c4b0:=decide_eq_true c4
 clear c4
 obtain⟨c5,H⟩:=ip_ H
 have c5b0:=decide_eq_true c5
 clear c5
 obtain⟨c6,H⟩:=ip_ H
 have c6b0:=decide_eq_true c6
 clear c6
 obtain⟨c7,H⟩:=ip_ H
 have c7b0:=decide_eq_true c7
 clear c7
 by_cases c8:(!(((rd_T37 l0 x13_1).f0)==((rd_T37 l1 x13_1).f0))||(!(((rd_T37 l0 x13_1).f1)==((rd_T37 l1 x13_1).f1))||(!(((rd_T37 l0 x13_1).f2)==((rd_T37 l1 x13_1).f2))||(!(((rd_T37 l0 x13_1).f3)==((rd_T37 l1 x13_1).f3))))))=true
 ·
  rw[if_pos c8]at H
  have c8b0:(!(((rd_T37 l0 x13_1).f0)==((rd_T37 l1 x13_1).f0))||(!(((rd_T37 l0 x13_1).f1)==((rd_T37 l1 x13_1).f1))||(!(((rd_T37 l0 x13_1).f2)==((rd_T37 l1 x13_1).f2))||(!(((rd_T37 l0 x13_1).f3)==((rd_T37 l1 x13_1).f3))))))=true:=c8
  clear c8
  obtain rfl:=Option.some.inj H
  have p445:0≤(x13_1:Int):=of_decide_eq_true Z5
  have q445:x13_1<(l0.length:Int):=of_decide_eq_true Z5
  obtain⟨ad445,e445,hx445_0,hx445_1,hx445_2,hx445_3⟩:=at_T37 HR0.1 x13_1 p445 q445
  cases e445
  replace p445:=eq_true p445
  replace q445:=eq_true q445
  have p446:0≤(x13_1:Int):=of_decide_eq_true Z5
  have q446:x13_1<(l1.length:Int):=of_decide_eq_true Z5
  obtain⟨ad446,e446,hx446_0,hx446_1,hx446_2,hx446_3⟩:=at_T37 HR1.1 x13_1 p446 q446
  cases e446
  replace p446:=eq_true p446
  replace q446:=eq_true q446
  go_wp2
  repeat(go_quiet (fail);try go_wp2)
  go_ret
  exact⟨Z7,Z16⟩
 rw[if_neg c8]at H
 have c8b0:(!(((rd_T37 l0 x13_1).f0)==((rd_T37 l1 x13_1).f0))||(!(((rd_T37 l0 x13_1).f1)==((rd_T37 l1 x13_1).f1))||(!(((rd_T37 l0 x13_1).f2)==((rd_T37 l1 x13_1).f2))||(!(((rd_T37 l0 x13_1).f3)==((rd_T37 l1 x13_1).f3))))))=false:=by simpa using c8
 clear c8
 have H':=am H
 clear H
 have p445:0≤(x13_1:Int):=of_decide_eq_true Z5
 have q445:x13_1<(l0.length:Int):=of_decide_eq_true Z5
 obtain⟨ad445,e445,hx445_0,hx445_1,hx445_2,hx445_3⟩:=at_T37 HR0.1 x13_1 p445 q445
 cases e445
 replace p445:=eq_true p445
 replace q445:=eq_true q445
 have p446:0≤(x13_1:Int):=of_decide_eq_true Z5
 have q446:x13_1<(l1.length:Int):=of_decide_eq_true Z5
 obtain⟨ad446,e446,hx446_0,hx446_1,hx446_2,hx446_3⟩:=at_T37 HR1.1 x13_1 p446 q446
 cases e446
 replace p446:=eq_true p446
 replace q446:=eq_true q446
 go_wp2
 repeat(go_quiet (fail);try go_wp2)
 go_roundg k1
 case measure=>have:=HK1.1;omega
 exact⟨(wrap64 (x13_1+1)),Z7,H',⟨Z34⟩,Z16⟩
def impl_CurvaturesOf.f (k:Nat) (l0:List (S37)):Option (List Int × Bool):=(impl_isConfig.f k l0).bind fun t447=>(if t447=true then((impl_curvatures.f k l0).bind fun t448=>(some (t448,true)))else(some (([]:List Int),false)))
theorem impl_CurvaturesOf.mono:∀a0 k,LeO (impl_CurvaturesOf.f k a0) (impl_CurvaturesOf.f (k+1) a0):=by
  intro a0 k
  unfold impl_CurvaturesOf.f
  exact mo_
set_option maxHeartbeats 8000000 in
set_option maxRecDepth 100000 in
theorem impl_CurvaturesOf.calls (k:Nat) (A0:Option Addr) (c0:Nat) (l0:List (S37)) (r1:List Int) (r2:Bool) (w:World) (hr0:Kd.C k37 w A0 l0.length l0) (hc0:l0.length≤c0) (h:impl_CurvaturesOf.f k l0=some (r1,r2)):
  Calls Tryz.prog 9 #[.slice A0 l0.length c0] w fun e w'=>∃v0_:Value,e= .returned (.tuple #[v0_,.bool r2])∧Kd.R (Kd.int .i64) 3 w' w.heap.size (fun _=>True) v0_ r1∧Below w.heap.size w w':=by
 have HR0:=am hr0
 have HC0:=am hc0
 clear hr0 hc0
 have HB:=am (Below.refl w.heap.size w)
 have H:=h
 clear h
 unfold impl_CurvaturesOf.f at H
 obtain⟨t447,A2,H⟩:=bs_ H
 try dsimp only at H
 by_cases c3:t447=true
 rotate_left
 ·
  replace c3:=Bool.eq_false_iff.mpr c3
  subst c3
  rw[if_neg (show¬(false=true) by decide)]at H
  simp only[Option.some.injEq,Prod.mk.injEq]at H
  obtain⟨rfl,rfl⟩:=H
  go_enter Tryz.func9,Tryz.ntmps9
  go_wp2_with (first|((with_reducible refine gc_ 32 rfl ?_);refine gM_ (some 5) Tryz.func32 (impl_isConfig.calls k _ _ l0 false _ ?side1 ?side2 A2.1) ?_;(case side1=>exact(Z11 HR0));(case side2=>exact HC0.1);intro w7 hb;replace HB:=bw_ hb;clear hb))
  go_ret2
  exact⟨_,Z6,Z23,ZB⟩
 subst c3
 rw[if_pos rfl]at H
 obtain⟨t448,A4,H⟩:=bs_ H
 try dsimp only at H
 simp only[Option.some.injEq,Prod.mk.injEq]at H
 obtain⟨rfl,rfl⟩:=H
 go_enter Tryz.func9,Tryz.ntmps9
 go_wp2_with (first|((with_reducible refine gc_ 32 rfl ?_);refine gM_ (some 5) Tryz.func32 (impl_isConfig.calls k _ _ l0 true _ ?side1 ?side2 A2.1) ?_;(case side1=>exact(Z11 HR0));(case side2=>exact HC0.1);intro w5 hb;replace HB:=bw_ hb;clear hb)|((with_reducible refine gc_ 34 rfl ?_);refine gE_ (some 8) Tryz.func34 (impl_curvatures.calls k _ _ l0 t448 _ ?side1 ?side2 A4.1) ?_;(case side1=>exact(Z15 HR0));(case side2=>exact HC0.1);rintro v449 w6 ⟨ho0,hb⟩;have HOoa:=am (Kd.R_lower ho0 zs_);replace HB:=bw_ hb;clear hb;(try clear ho0)))
 go_ret2
 exact⟨_,Z6,(Z1 HOoa),ZB⟩
def slices_Index_int_int.l0:Nat→List Int→Int→Int→Int→Option (Int)
  |0,_,_,_,_=>none
  |k+1,x0,x1,x7,x8=>if x8<x7 then(if 0≤x8 then(if x8<(x0.length:Int)then(if x1=(rd x0 x8)then(some x8)else(slices_Index_int_int.l0 k x0 x1 x7 (wrap64 (x8+1))))else(none))else(none))else(some (-1))
def slices_Index_int_int.f (k:Nat) (l0:List Int) (a1:Int):Option (Int):=slices_Index_int_int.l0 k l0 a1 (l0.length:Int) 0
theorem slices_Index_int_int.mono_l:∀k,(∀y0 y1 y2 y3,LeO (slices_Index_int_int.l0 k y0 y1 y2 y3) (slices_Index_int_int.l0 (k+1) y0 y1 y2 y3))
  |0=>fun _ _ _ _ r h=>by simp[slices_Index_int_int.l0]at h
  |k+1=>by
    have ih0:=slices_Index_int_int.mono_l k
    · intro y0 y1 y2 y3
      unfold slices_Index_int_int.l0
      exact mo_
theorem slices_Index_int_int.mono:∀a0 a1 k,LeO (slices_Index_int_int.f k a0 a1) (slices_Index_int_int.f (k+1) a0 a1):=by
  intro a0 a1 k
  have ih0:=slices_Index_int_int.mono_l k
  unfold slices_Index_int_int.f
  exact mo_
set_option maxHeartbeats 8000000 in
set_option maxRecDepth 100000 in
theorem slices_Index_int_int.calls (k:Nat) (A0:Option Addr) (c0:Nat) (l0:List Int) (a1:Int) (r:Int) (w:World) (hr0:Kd.C (Kd.int .i64) w A0 l0.length l0) (hc0:l0.length≤c0) (h:slices_Index_int_int.f k l0 a1=some r):
  Calls Tryz.prog 160 #[.slice A0 l0.length c0,.int .i64 a1] w fun e w'=>e= .returned (.int .i64 r)∧Drawn0 w w':=by
 have HR0:=am hr0
 have HC0:=am hc0
 clear hr0 hc0
 have H:=h
 clear h
 unfold slices_Index_int_int.f at H
 have H':=am H
 clear H
 go_enter Tryz.func160,Tryz.ntmps160
 go_wp2
 go_loopg [8] k (fun kq v8 w'=>∃(x8_1:Int),v8= .int .i64 x8_1∧Aside0 (slices_Index_int_int.l0 kq l0 a1 (l0.length:Int) x8_1=some r)∧Aside0 (kq≤k)∧Drawn0 w w')
 case atStart=>exact⟨(0),Z7,H',⟨Nat.le_refl _⟩,Z16⟩
 clear H'
 obtain⟨x8_1,rfl,HA,HK1,⟨m1,rfl⟩⟩:=hrel
 obtain _|k1:=gk
 ·
  exact absurd HA.out (by simp[slices_Index_int_int.l0])
 have H:=HA.out
 clear HA
 simp only[slices_Index_int_int.l0]at H
 by_cases c3:x8_1<(l0.length:Int)
 rotate_left
 ·
  rw[if_neg c3]at H
  have c3b0:=decide_eq_false c3
  clear c3
  obtain rfl:=Option.some.inj H
  go_wp2
  go_ret
  exact⟨Z7,Z16⟩
 rw[if_pos c3]at H
 have c3b0:=decide_eq_true c3
 clear c3
 obtain⟨c4,H⟩:=ip_ H
 have c4b0:=decide_eq_true c4
 clear c4
 obtain⟨c5,H⟩:=ip_ H
 have c5b0:=decide_eq_true c5
 clear c5
 by_cases c6:a1=(rd l0 x8_1)
 ·
  rw[if_pos c6]at H
  obtain⟨c6b0,c6b1⟩:=eq2_ c6
  clear c6
  obtain rfl:=Option.some.inj H
  have p451:0≤(x8_1:Int):=of_decide_eq_true Z5
  have q451:x8_1<(l0.length:Int):=of_decide_eq_true Z5
  obtain⟨ad451,e451,hx451_0⟩:=Kd.at_int HR0.1 x8_1 p451 q451
  cases e451
  replace p451:=eq_true p451
  replace q451:=eq_true q451
  go_wp2
  go_ret
  exact⟨Z7,Z16⟩
 rw[if_neg c6]at H
 obtain⟨c6b0,c6b1⟩:=ne2_ c6
 have H':=am H
 clear H
 have p451:0≤(x8_1:Int):=of_decide_eq_true Z5
 have q451:x8_1<(l0.length:Int):=of_decide_eq_true Z5
 obtain⟨ad451,e451,hx451_0⟩:=Kd.at_int HR0.1 x8_1 p451 q451
 cases e451
 replace p451:=eq_true p451
 replace q451:=eq_true q451
 go_wp2
 go_roundg k1
 case measure=>have:=HK1.1;omega
 exact⟨(wrap64 (x8_1+1)),Z7,H',⟨Z34⟩,Z16⟩
def slices_Max_int_int.f (l0:List Int):Option Int:=match l0 with
  |[]=>none
  |x::xs=>some (xs.foldl max x)
set_option maxHeartbeats 4000000 in
theorem slices_Max_int_int.calls (A0:Option Addr) (c0:Nat) (l0:List Int) (r:Int) (w:World) (hr0:Kd.C (Kd.int .i64) w A0 l0.length l0) (hc0:l0.length≤c0) (h:slices_Max_int_int.f l0=some r):
  Calls Tryz.prog 161 #[.slice A0 l0.length c0] w fun e w'=>e= .returned (.int .i64 r)∧Drawn0 w w':=by
 obtain⟨x,xs,rfl,hr⟩:∃x xs,l0=x::xs∧r=xs.foldl max x:=by
  cases l0 with
  |nil=>simp[slices_Max_int_int.f]at h
  |cons x xs=>exact⟨x,xs,rfl,(Option.some.inj h).symm⟩
 subst hr
 clear h
 have HR0:=am hr0
 have hmx:(x::xs).length≤9223372036854775807:=hr0.2.1
 have hst:∀kk:Nat,kk<xs.length→(xs.take (kk+1)).foldl max x=max ((xs.take kk).foldl max x) (rd (x::xs) ((kk:Int)+1)):=by
  intro kk hk
  rw[List.take_succ_eq_append_getElem hk,List.foldl_append]
  simp[rd,List.getD_eq_getElem?_getD,show((kk:Int)+1).toNat=kk+1 by omega,List.getElem?_eq_getElem hk]
 have HST:=am hst
 have hal:(xs.take xs.length).foldl max x=xs.foldl max x:=by rw[List.take_length]
 have HAL:=am hal
 obtain⟨ad0,e0,hcell0⟩:=Kd.at_int hr0 (0:Int) (by omega) (by simp only[List.length_cons];omega)
 have hx0:rd (x::xs) 0=x:=rfl
 rw[hx0]at hcell0
 replace hcell0:w.cell? ad0=some (.int .i64 x):=hcell0
 cases e0
 clear hr0 hst hal
 have hne:¬(((x::xs).length:Int)<1):=by simp only[List.length_cons];omega
 have hpos:(0:Int)<(((x::xs).length:Nat):Int):=by simp only[List.length_cons];omega
 generalize hn:(x::xs).length=n at*
 have HN:=am (show n=xs.length+1 by simpa using hn.symm)
 have hneb:decide ((n:Int)<1)=false:=decide_eq_false hne
 clear hn hx0 hc0
 go_enter Tryz.func161,Tryz.ntmps161
 go_wp2
 go_loopg [3,4] n (fun gg s3 s4 wr=>∃(ix m:Int) (kk q:Nat),Aside0 (ix=(kk:Int)+1∧m=(xs.take kk).foldl max x∧kk≤xs.length∧xs.length-kk<gg)∧s4= .int .i64 ix∧s3= .int .i64 m∧wr=w.drewN q)
 case atStart=>
  have hn':=HN.out
  exact⟨1,x,0,0,⟨(by omega),rfl,Nat.zero_le _,(by omega)⟩,rfl,rfl,rfl⟩
 obtain⟨ix,m,kk,q,hA,rfl,rfl,rfl⟩:=hrel
 by_cases hlt:kk<xs.length
 rotate_left
 ·
  obtain⟨hix,hm,hkk,hg⟩:=hA.out
  have hn':=HN.out
  have hltz:¬ix<(n:Int):=by omega
  obtain rfl:kk=xs.length:=by omega
  have HAL':=am (hm.trans HAL.out)
  clear hn' hm hix hkk hg
  go_wp2
  go_ret
  exact⟨(by rw[←HAL'.out];rfl),Z16⟩
 obtain⟨hix,hm,hkk,hg⟩:=hA.out
 have hn':=HN.out
 have hltz:ix<(n:Int):=by omega
 have hz:0≤ix:=by omega
 have hup:ix+1≤9223372036854775807:=by omega
 obtain⟨ad,e1,hcell⟩:=Kd.at_int HR0.1 ix hz hltz
 cases e1
 have hs:=am (HST.out kk hlt)
 rw[←hix,←hm]at hs
 generalize rd (x::xs) ix=y at hcell hs
 by_cases hc:m<y
 ·
  have hs':=am (hs.out.trans (show max m y=y by rw[Int.max_def];split<;>omega))
  clear hs
  clear hn' hm hix hkk hg
  go_wp2
  go_roundg (n-(kk+1))
  case measure=>
   have hn':=HN.out
   have h4:=hA.out.2.2.2
   omega
  have hn':=HN.out
  have h1:=hA.out.1
  exact⟨ix+1,_,kk+1,_,⟨(by omega),hs'.out.symm,(by omega),(by omega)⟩,Z55,rfl,rfl⟩
 have hs':=am (hs.out.trans (show max m y=m by rw[Int.max_def];split<;>omega))
 clear hs
 clear hn' hm hix hkk hg
 go_wp2
 go_roundg (n-(kk+1))
 case measure=>
  have hn':=HN.out
  have h4:=hA.out.2.2.2
  omega
 have hn':=HN.out
 have h1:=hA.out.1
 exact⟨ix+1,_,kk+1,_,⟨(by omega),hs'.out.symm,(by omega),(by omega)⟩,Z55,rfl,rfl⟩
def impl_greatest.f (k:Nat) (l0:List Int):Option (Int):=(slices_Max_int_int.f l0).bind fun t452=>((slices_Index_int_int.f k l0 t452).bind fun t453=>(some t453))
theorem impl_greatest.mono:∀a0 k,LeO (impl_greatest.f k a0) (impl_greatest.f (k+1) a0):=by
  intro a0 k
  unfold impl_greatest.f
  exact mo_
set_option maxHeartbeats 8000000 in
set_option maxRecDepth 100000 in
theorem impl_greatest.calls (k:Nat) (A0:Option Addr) (c0:Nat) (l0:List Int) (r:Int) (w:World) (hr0:Kd.C (Kd.int .i64) w A0 l0.length l0) (hc0:l0.length≤c0) (h:impl_greatest.f k l0=some r):
  Calls Tryz.prog 139 #[.slice A0 l0.length c0] w fun e w'=>e= .returned (.int .i64 r)∧Drawn0 w w':=by
 have HR0:=am hr0
 have HC0:=am hc0
 clear hr0 hc0
 have H:=h
 clear h
 unfold impl_greatest.f at H
 obtain⟨t452,A2,H⟩:=bs_ H
 try dsimp only at H
 obtain⟨t453,A3,H⟩:=bs_ H
 try dsimp only at H
 obtain rfl:=Option.some.inj H
 go_enter Tryz.func139,Tryz.ntmps139
 go_wp2_with (first|((with_reducible refine gc_ 161 rfl ?_);refine goesN_ 161 (some 5) Tryz.func161 #[.slice A0 l0.length c0] ?_;(with_reducible refine(slices_Max_int_int.calls _ _ l0 t452 _ ?side1 ?side2 A2.1).mono ?_);(case side1=>exact(Z11 HR0));(case side2=>exact HC0.1);rintro e w' ⟨rfl,⟨nd,rfl⟩⟩;refine⟨_,rfl,?_⟩)|((with_reducible refine gc_ 160 rfl ?_);refine goesN_ 160 (some 6) Tryz.func160 #[.slice A0 l0.length c0,.int .i64 t452] ?_;(with_reducible refine(slices_Index_int_int.calls k _ _ l0 t452 t453 _ ?side1 ?side2 A3.1).mono ?_);(case side1=>exact(Z11 HR0));(case side2=>exact HC0.1);rintro e w' ⟨rfl,⟨nd,rfl⟩⟩;refine⟨_,rfl,?_⟩))
 go_ret
 exact⟨Z7,Z16⟩
end
def impl_down.l0:Nat→List Int→List (List Int)→List Int→Option ((List (List Int))× List Int × Bool)
  |0,_,_,_=>none
  |k+1,x0,x5,x6=>(impl_isRoot.f k x0).bind fun t463=>(if t463=true then(some (x5,x6,true))else((impl_greatest.f k x0).bind fun t464=>((impl_swapped.f k x0 t464).bind fun t465=>((slices_Clone_int_int.f t465).bind fun t468=>(if x5.length<5864062014805 then((some (x5++[t468]:List (List Int))).bind fun y471=>(if x6.length<17592186044416 then(if(y471.length:Int)>200 then(some (([]:List (List Int)),([]:List Int),false))else(impl_down.l0 k t465 y471 (x6++[t464])))else(none)))else(none))))))
def impl_down.f (k:Nat) (l0:List Int):Option ((List (List Int))× List Int × Bool):=(slices_Clone_int_int.f l0).bind fun t454=>(if([]:List (List Int)).length<5864062014805 then(impl_down.l0 k l0 (([]:List (List Int))++[t454]) (([]:List Int)))else(none))
theorem impl_down.mono_l:∀k,(∀y0 y1 y2,LeO (impl_down.l0 k y0 y1 y2) (impl_down.l0 (k+1) y0 y1 y2))
  |0=>fun _ _ _ r h=>by simp[impl_down.l0]at h
  |k+1=>by
    have ih0:=impl_down.mono_l k
    · intro y0 y1 y2
      unfold impl_down.l0
      exact mo_
theorem impl_down.mono:∀a0 k,LeO (impl_down.f k a0) (impl_down.f (k+1) a0):=by
  intro a0 k
  have ih0:=impl_down.mono_l k
  unfold impl_down.f
  exact mo_
set_option maxHeartbeats 8000000 in
set_option maxRecDepth 100000 in
theorem impl_down.calls (k:Nat) (P0_:Nat→Prop) (A0:Option Addr) (c0:Nat) (l0:List Int) (r1:List (List Int)) (r2:List Int) (r3:Bool) (w:World) (hs0:Kd.V (Kd.int .i64) 3 w w.heap.size (fun k_=>P0_ k_) (.slice A0 l0.length c0) l0) (h:impl_down.f k l0=some (r1,r2,r3)):
  Calls Tryz.prog 115 #[.slice A0 l0.length c0] w fun e w'=>∃v0_ v1_:Value,e= .returned (.tuple #[v0_,v1_,.bool r3])∧Kd.S (Kd.slice 3 (Kd.int .i64)) 30 w' w.heap.size (fun k_=>(w.heap.size≤k_)∧some k_≠(v1_:Value).ownBlock) v0_ r1∧Kd.R (Kd.int .i64) 3 w' w.heap.size (fun k_=>(w.heap.size≤k_)) v1_ r2∧Below w.heap.size w w':=by
 have HO0:=am (show Kd.V (Kd.int .i64) 3 w w.heap.size (fun k_=>(P0_ k_∨w.heap.size≤k_)) (.slice A0 l0.length c0) l0 from Kd.V_mono hs0 (fun k_ hk=> .inl hk))
 have HB:=am (Below.refl w.heap.size w)
 have H:=h
 clear h
 unfold impl_down.f at H
 obtain⟨t454,A2,H⟩:=bs_ H
 try dsimp only at H
 obtain⟨c3,H⟩:=ip_ H
 have LMc3:=am c3
 clear c3
 obtain⟨y_a,hy_a⟩:∃y_:List (List Int),y_=(([]:List (List Int))++[t454]):=⟨_,rfl⟩
 replace H:(impl_down.l0 k l0 y_a (([]:List Int)))=some (r1,r2,r3):=Z8
 have Ny_a:=am hy_a
 clear hy_a
 obtain⟨y_b,hy_b⟩:∃y_:List Int,y_=(([]:List Int)):=⟨_,rfl⟩
 replace H:(impl_down.l0 k l0 y_a y_b)=some (r1,r2,r3):=Z14
 have Ny_b:=am hy_b
 clear hy_b
 have H':=am H
 clear H
 go_enter Tryz.func115,Tryz.ntmps115
 go_wp2_with (first|((with_reducible refine gc_ 49 rfl ?_);refine gE_ (some 9) Tryz.func49 (slices_Clone_int_int.calls _ _ l0 t454 _ ?side1 ?side2 A2.1) ?_;(case side1=>exact(Z26 HO0));(case side2=>exact(Kd.V_reads' HO0.1).2.1);rintro v455 w4 ⟨ho0,hb⟩;replace HO0:=am (Kd.V_elder' (Z17 HO0) (Kd.R_base ho0) hb);have HOoa:=am (Kd.R_lower (Kd.R_newM (M:=fun k_=>(w.heap.size≤k_)) ho0 zs_ (fun k_ h_=>h_)) zs_);replace HB:=bw_ hb;clear hb;(try clear ho0);obtain⟨Ao6,co6,eo6⟩:=Kd.R_slice HOoa.1;subst eo6)|((with_reducible refine gd_ 10 rfl ?_);refine S_lit1 (Kd.slice 3 (Kd.int .i64)) (w0:=w) w.heap.size 30 24 rfl (N:=10) ?hd t454 [.slice Ao6 t454.length co6] (fun k_=>(w.heap.size≤k_)) (fun k_=>some k_=(.slice Ao6 t454.length co6:Value).ownBlock) ?hr ?aP (fun k_ hk_=>((Kd.R_mono (ok':=fun k_=>((fun k_=>(w.heap.size≤k_))) k_∧some k_≠(.slice none 0 0:Value).ownBlock) (HOoa.1) (fun k_ hk=>⟨hk.1,(by simp[Value.ownBlock])⟩))).1 k_ hk_.symm) ?aF ?aO ?aB ?aS ?aL ?_;(case hd=>rfl);(case hr=>first|(go_simp;done)|(go_simp;rfl));(case aP=>exact Kd.M_row (Kd.R_mono (Kd.R_tight rfl (Kd.R_mono (ok':=fun k_=>((fun k_=>(w.heap.size≤k_))) k_∧some k_≠(.slice none 0 0:Value).ownBlock) (HOoa.1) (fun k_ hk=>⟨hk.1,(by simp[Value.ownBlock])⟩))) (fun _ h_=>h_)));(case aB=>exact ZB);(case aF=>exact(fun k_ hk=>(Nat.le_trans zs_ hk)));(case aO=>exact((Kd.S_nil _ _ _ _ _)));(case aS=>exact zs_);(case aL=>have:=LMc3.out;omega);intro v458 w5 ho hb hg hat;rw[←Ny_a.1]at ho;replace HO0:=am (Kd.V_afterv (Kd.V_apart_nil (Z17 HO0)) hg hat);replace HB:=am hb;have HOob:=am ho;clear HOoa;clear ho hb hg hat)|((with_reducible refine gd_ 11 rfl ?_);refine Kd.R_lit (Kd.int .i64) _ 3 ?hg (N:=11) ?hd (xs:=([]:List Int)) (inner:=[]) (ok:=fun _=>True) (okp:=fun _=>True) ?hr ?hp (fun _ hk=>hk) trivial (Below.refl _ _) (Nat.le_refl _) (by simp) ?_;(case hd=>rfl);(case hg=>rfl);(case hr=>first|(go_simp;done)|(go_simp;rfl));(case hp=>exact(Reps.none _ _));intro v461 w7 ho8 hb hg_ hnew_;clear hg_ hnew_;(first|rw[←Ny_b.1]at ho8|(simp only[Int.reduceToNat]at ho8;rw[←Ny_b.1]at ho8));replace HO0:=am (Kd.V_elder' (Z17 HO0) (Kd.R_base ho8) hb);replace HOob:=am (Kd.S_elder' (Z12 HOob) (Kd.R_base ho8) hb);have HOoc:=am (Kd.R_lower (Kd.R_newM (M:=fun k_=>(w.heap.size≤k_)) ho8 zs_ (fun k_ h_=>h_)) zs_);replace HB:=bw_ hb;clear hb ho8))
 go_loopg [0,5,6] k (fun kq v0 v5 v6 w'=>∃(x0_1:List Int) (x5_1:List (List Int)) (x6_1:List Int),Aside0 (impl_down.l0 kq x0_1 x5_1 x6_1=some (r1,r2,r3))∧Aside0 (kq≤k)∧Aside0 (Kd.V (Kd.int .i64) 3 w' w.heap.size (fun k_=>(P0_ k_∨w.heap.size≤k_)∧some k_≠(v5:Value).ownBlock∧some k_≠(v6:Value).ownBlock) v0 x0_1)∧Aside0 (Kd.S (Kd.slice 3 (Kd.int .i64)) 30 w' w.heap.size (fun k_=>(w.heap.size≤k_)∧some k_≠(v6:Value).ownBlock) v5 x5_1)∧Aside0 (Kd.R (Kd.int .i64) 3 w' w.heap.size (fun k_=>(w.heap.size≤k_)) v6 x6_1)∧Aside0 (Below w.heap.size w w'))
 case atStart=>exact⟨(l0),(y_a),(y_b),H',⟨Nat.le_refl _⟩,⟨(by(with_reducible repeat(first|apply Kd.V_alloc|apply Kd.V_drewN|apply Kd.V_drew));exact Kd.V_mono HO0.1 (fun _ hk=>⟨hk.1.1.1,⟨hk.1.2,hk.2⟩⟩))⟩,⟨(Z12 HOob)⟩,⟨(Z32 HOoc)⟩,⟨ZB⟩⟩
 clear H'
 obtain⟨x0_1,x5_1,x6_1,HA,HK1,HO_0,HO_5,HO_6,HB⟩:=hrel
 obtain _|k1:=gk
 ·
  exact absurd HA.out (by simp[impl_down.l0])
 have H:=HA.out
 clear HA
 simp only[impl_down.l0]at H
 obtain⟨t463,A9,H⟩:=bs_ H
 try dsimp only at H
 by_cases c10:t463=true
 ·
  subst c10
  rw[if_pos rfl]at H
  simp only[Option.some.injEq,Prod.mk.injEq]at H
  obtain⟨rfl,rfl,rfl⟩:=H
  obtain⟨Ao11,co11,eo11⟩:=Kd.V_slice HO_0.1
  subst eo11
  go_wp2_with (first|((with_reducible refine gc_ 36 rfl ?_);refine gM_ (some 13) Tryz.func36 (impl_isRoot.calls k1 _ _ x0_1 true _ ?side1 ?side2 A9.1) ?_;(case side1=>exact(Z26 HO_0));(case side2=>exact(Kd.V_reads' HO_0.1).2.1);intro w12 hb;replace HO_0:=am (Kd.V_below (Z17 HO_0) hb);replace HO_5:=am (Kd.S_below (Z12 HO_5) hb);replace HO_6:=am (Kd.R_below (Z1 HO_6) hb);replace HB:=bw_ hb;clear hb))
  go_ret3
  exact⟨_,_,Z6,(Z12 HO_5),(Z1 HO_6),ZB⟩
 replace c10:=Bool.eq_false_iff.mpr c10
 subst c10
 rw[if_neg (show¬(false=true) by decide)]at H
 obtain⟨t464,A13,H⟩:=bs_ H
 try dsimp only at H
 obtain⟨t465,A14,H⟩:=bs_ H
 try dsimp only at H
 obtain⟨t468,A15,H⟩:=bs_ H
 try dsimp only at H
 obtain⟨c16,H⟩:=ip_ H
 have LMc16:=am c16
 clear c16
 obtain⟨y_c,hy_c⟩:∃y_:List (List Int),y_=(x5_1++[t468]):=⟨_,rfl⟩
 replace H:(if x6_1.length<17592186044416 then(if(y_c.length:Int)>200 then(some (([]:List (List Int)),([]:List Int),false))else(impl_down.l0 k1 t465 y_c (x6_1++[t464])))else(none))=some (r1,r2,r3):=Z24
 have Ny_c:=am hy_c
 clear hy_c
 obtain⟨c17,H⟩:=ip_ H
 have LMc17:=am c17
 clear c17
 obtain⟨y_d,hy_d⟩:∃y_:List Int,y_=(x6_1++[t464]):=⟨_,rfl⟩
 replace H:(if(y_c.length:Int)>200 then(some (([]:List (List Int)),([]:List Int),false))else(impl_down.l0 k1 t465 y_c y_d))=some (r1,r2,r3):=Z36
 have Ny_d:=am hy_d
 clear hy_d
 by_cases c18:(y_c.length:Int)>200
 ·
  rw[if_pos c18]at H
  have c18b0:decide (200<(y_c.length:Int))=true:=decide_eq_true c18
  have c18b1:decide (200<y_c.length)=true:=decide_eq_true (by omega)
  clear c18
  simp only[Option.some.injEq,Prod.mk.injEq]at H
  obtain⟨rfl,rfl,rfl⟩:=H
  obtain⟨Ao19,co19,eo19⟩:=Kd.V_slice HO_0.1
  subst eo19
  go_wp2_with (first|((with_reducible refine gc_ 36 rfl ?_);refine gM_ (some 13) Tryz.func36 (impl_isRoot.calls k1 _ _ x0_1 false _ ?side1 ?side2 A9.1) ?_;(case side1=>exact(Z26 HO_0));(case side2=>exact(Kd.V_reads' HO_0.1).2.1);intro w20 hb;replace HO_0:=am (Kd.V_below (Z17 HO_0) hb);replace HO_5:=am (Kd.S_below (Z12 HO_5) hb);replace HO_6:=am (Kd.R_below (Z1 HO_6) hb);replace HB:=bw_ hb;clear hb)|((with_reducible refine gc_ 139 rfl ?_);refine goesN_ 139 (some 16) Tryz.func139 #[.slice Ao19 x0_1.length co19] ?_;(with_reducible refine(impl_greatest.calls k1 _ _ x0_1 t464 _ ?side1 ?side2 A13.1).mono ?_);(case side1=>exact(Z26 HO_0));(case side2=>exact(Kd.V_reads' HO_0.1).2.1);rintro e w' ⟨rfl,⟨nd,rfl⟩⟩;refine⟨_,rfl,?_⟩)|((with_reducible refine gc_ 73 rfl ?_);refine gE_ (some 19) Tryz.func73 (impl_swapped.calls k1 _ _ x0_1 t464 t465 _ ?side1 ?side2 A14.1) ?_;(case side1=>exact(Z26 HO_0));(case side2=>exact(Kd.V_reads' HO_0.1).2.1);rintro v466 w21 ⟨ho0,hb⟩;replace HO_0:=am (Kd.V_elder' (Z17 HO_0) (Kd.R_base ho0) hb);replace HO_5:=am (Kd.S_elder' (Z12 HO_5) (Kd.R_base ho0) hb);have HOod:=am (Kd.R_lower (Kd.R_new' (Kd.R_newM (M:=fun k_=>(w.heap.size≤k_)) ho0 zs_ (fun k_ h_=>h_)) (Kd.R_lt (Z1 HO_6))) zs_);replace HO_6:=am (Kd.R_elder' (Z1 HO_6) (Kd.R_base ho0) hb);replace HB:=bw_ hb;clear hb;(try clear ho0);obtain⟨Ao22,co22,eo22⟩:=Kd.R_slice HOod.1;subst eo22)|((with_reducible refine gc_ 49 rfl ?_);refine gE_ (some 22) Tryz.func49 (slices_Clone_int_int.calls _ _ t465 t468 _ ?side1 ?side2 A15.1) ?_;(case side1=>exact(Z10 HOod));(case side2=>exact(Kd.R_reads' HOod.1).2.1);rintro v469 w23 ⟨ho0,hb⟩;replace HO_0:=am (Kd.V_elder' (Z17 HO_0) (Kd.R_base ho0) hb);replace HO_5:=am (Kd.S_elder' (Z12 HO_5) (Kd.R_base ho0) hb);have HOoe:=am (Kd.R_lower (Kd.R_new' (Kd.R_new' (Kd.R_newM (M:=fun k_=>(w.heap.size≤k_)) ho0 zs_ (fun k_ h_=>h_)) (Kd.R_lt (Z1 HO_6))) (Kd.R_lt (Z1 HOod))) zs_);replace HO_6:=am (Kd.R_elder' (Z1 HO_6) (Kd.R_base ho0) hb);replace HOod:=am (Kd.R_elder' (Z1 HOod) (Kd.R_base ho0) hb);replace HB:=bw_ hb;clear hb;(try clear ho0);obtain⟨Ao25,co25,eo25⟩:=Kd.R_slice HOoe.1;subst eo25)|((with_reducible refine gate_builtin (b:= .append) (xs:=#[.tmp 20,.tmp 23]) rfl ?_);at_builtin;refine Kd.S_append (Kd.slice 3 (Kd.int .i64)) (w0:=w) w.heap.size rfl (.tmp 20) (.tmp 23) 42 30 (.slice none 0 0) 24 rfl Tryz.underlying42 info30 rfl (by decide) (by omega) u5 x5_1 t468 [.slice Ao25 t468.length co25] (fun k_=>(w.heap.size≤k_)∧some k_≠(u6:Value).ownBlock∧some k_≠(.slice Ao22 t465.length co22:Value).ownBlock) (fun k_=>some k_=(.slice Ao25 t468.length co25:Value).ownBlock) rfl rfl ?aP (fun k_ hk_=>((Kd.R_mono (ok':=fun k_=>((fun k_=>(w.heap.size≤k_)∧some k_≠(u6:Value).ownBlock∧some k_≠(.slice Ao22 t465.length co22:Value).ownBlock)) k_∧some k_≠(u5:Value).ownBlock) (Kd.R_apart' (HOoe.1) (Kd.S_typed HO_5.1) (by decide)) (fun k_ hk=>⟨⟨hk.1.1.1.1,⟨hk.1.1.2,hk.1.2⟩⟩,hk.2⟩))).1 k_ hk_.symm) ?aF ?aO ?aB ?aS ?aL ?_;(case aP=>exact Kd.M_row (Kd.R_mono (Kd.R_tight rfl (Kd.R_mono (ok':=fun k_=>((fun k_=>(w.heap.size≤k_)∧some k_≠(u6:Value).ownBlock∧some k_≠(.slice Ao22 t465.length co22:Value).ownBlock)) k_∧some k_≠(u5:Value).ownBlock) (Kd.R_apart' (HOoe.1) (Kd.S_typed HO_5.1) (by decide)) (fun k_ hk=>⟨⟨hk.1.1.1.1,⟨hk.1.1.2,hk.1.2⟩⟩,hk.2⟩))) (fun _ h_=>h_)));(case aB=>exact ZB);(case aF=>exact(fun k_ hk=>⟨(Nat.le_trans zs_ hk),Kd.fresh' (Kd.R_lt (Z1 HO_6)) k_ hk,Kd.fresh' (Kd.R_lt (Z1 HOod)) k_ hk⟩));(case aO=>exact(by(with_reducible repeat(first|apply Kd.S_alloc|apply Kd.S_drewN|apply Kd.S_drew));exact Kd.S_mono HO_5.1 (fun k_ hk=>⟨⟨hk.1.1.1,⟨hk.1.1.2,hk.1.2⟩⟩,fun e_=>hk.2 e_⟩)));(case aS=>exact zs_);(case aL=>have:=LMc16.out;omega);intro v472 w24 ho hb hg hat;rw[←Ny_c.1]at ho;replace HO_0:=am (Kd.V_afterv (ok:=(fun k_=>(P0_ k_∨w.heap.size≤k_)∧some k_≠(u6:Value).ownBlock∧some k_≠(.slice Ao22 t465.length co22:Value).ownBlock∧some k_≠(.slice Ao25 t468.length co25:Value).ownBlock)) (by(with_reducible repeat(first|apply Kd.V_alloc|apply Kd.V_drewN|apply Kd.V_drew));exact Kd.V_mono HO_0.1 (fun _ hk=>⟨⟨hk.1.1.1,⟨hk.1.1.2.2,⟨hk.1.2,hk.2⟩⟩⟩,hk.1.1.2.1⟩)) hg hat);replace HO_6:=am (Kd.R_over' (Z1 HO_6) (Kd.S_typed (Z12 HO_5)) (by decide) hg);replace HOod:=am (Kd.R_over' (Z1 HOod) (Kd.S_typed (Z12 HO_5)) (by decide) hg);replace HB:=am hb;have HOof:=am ho;clear HOoe HO_5;clear ho hb hg hat)|((with_reducible refine gate_builtin (b:= .append) (xs:=#[.tmp 25,.tmp 27]) rfl ?_);at_builtin;refine Kd.R_append (Kd.int .i64) (w0:=w) w.heap.size rfl (.tmp 25) (.tmp 27) 30 3 (.int .i64 0) 8 rfl Tryz.underlying30 info3 rfl (by decide) (by omega) u6 x6_1 t464 [.int .i64 t464] (fun k_=>(w.heap.size≤k_)∧some k_≠(.slice Ao22 t465.length co22:Value).ownBlock) (fun _=>False) rfl rfl ?aP (fun _ hk=>hk.elim) ?aF ?aO ?aB ?aS ?aL ?_;(case aP=>exact rfl);(case aB=>exact ZB);(case aF=>exact(fun k_ hk=>⟨(Nat.le_trans zs_ hk),Kd.fresh' (Kd.R_lt (Z1 HOod)) k_ hk⟩));(case aO=>exact(by(with_reducible repeat(first|apply Kd.R_alloc|apply Kd.R_drewN|apply Kd.R_drew));exact Kd.R_mono HO_6.1 (fun _ hk=>⟨hk.1.1,hk.1.2⟩)));(case aS=>exact zs_);(case aL=>have:=LMc17.out;omega);intro v475 w26 ho hb hg hat;rw[←Ny_d.1]at ho;replace HO_0:=am (Kd.V_afterv (ok:=(fun k_=>(P0_ k_∨w.heap.size≤k_)∧some k_≠(.slice Ao22 t465.length co22:Value).ownBlock∧some k_≠(v472:Value).ownBlock)) (by(with_reducible repeat(first|apply Kd.V_alloc|apply Kd.V_drewN|apply Kd.V_drew));exact Kd.V_mono HO_0.1 (fun _ hk=>⟨⟨hk.1.1,⟨hk.1.2.2.1,hk.2⟩⟩,hk.1.2.1⟩)) hg hat);replace HOod:=am (Kd.R_after (ok:=(fun k_=>(w.heap.size≤k_))) (by(with_reducible repeat(first|apply Kd.R_alloc|apply Kd.R_drewN|apply Kd.R_drew));exact Kd.R_mono HOod.1 (fun _ hk=>⟨hk.1.1.1,hk.1.2⟩)) hg hat);replace HOof:=am (Kd.S_after (ok:=(fun k_=>(w.heap.size≤k_)∧some k_≠(.slice Ao22 t465.length co22:Value).ownBlock)) (by(with_reducible repeat(first|apply Kd.S_alloc|apply Kd.S_drewN|apply Kd.S_drew));exact Kd.S_mono HOof.1 (fun _ hk=>⟨⟨hk.1,hk.2.2⟩,hk.2.1⟩)) hg hat);replace HB:=am hb;have HOog:=am ho;clear HO_6;clear ho hb hg hat;obtain⟨Ao27,co27,eo27⟩:=Kd.S_slice HOof.1;subst eo27))
  go_ret3
  exact⟨_,_,Z6,Z33,Z23,ZB⟩
 rw[if_neg c18]at H
 have c18b0:decide (200<(y_c.length:Int))=false:=decide_eq_false c18
 have c18b1:decide (200<y_c.length)=false:=decide_eq_false (by omega)
 clear c18
 have H':=am H
 clear H
 obtain⟨Ao28,co28,eo28⟩:=Kd.V_slice HO_0.1
 subst eo28
 go_wp2_with (first|((with_reducible refine gc_ 36 rfl ?_);refine gM_ (some 13) Tryz.func36 (impl_isRoot.calls k1 _ _ x0_1 false _ ?side1 ?side2 A9.1) ?_;(case side1=>exact(Z26 HO_0));(case side2=>exact(Kd.V_reads' HO_0.1).2.1);intro w29 hb;replace HO_0:=am (Kd.V_below (Z17 HO_0) hb);replace HO_5:=am (Kd.S_below (Z12 HO_5) hb);replace HO_6:=am (Kd.R_below (Z1 HO_6) hb);replace HB:=bw_ hb;clear hb)|((with_reducible refine gc_ 139 rfl ?_);refine goesN_ 139 (some 16) Tryz.func139 #[.slice Ao28 x0_1.length co28] ?_;(with_reducible refine(impl_greatest.calls k1 _ _ x0_1 t464 _ ?side1 ?side2 A13.1).mono ?_);(case side1=>exact(Z26 HO_0));(case side2=>exact(Kd.V_reads' HO_0.1).2.1);rintro e w' ⟨rfl,⟨nd,rfl⟩⟩;refine⟨_,rfl,?_⟩)|((with_reducible refine gc_ 73 rfl ?_);refine gE_ (some 19) Tryz.func73 (impl_swapped.calls k1 _ _ x0_1 t464 t465 _ ?side1 ?side2 A14.1) ?_;(case side1=>exact(Z26 HO_0));(case side2=>exact(Kd.V_reads' HO_0.1).2.1);rintro v466 w30 ⟨ho0,hb⟩;replace HO_0:=am (Kd.V_elder' (Z17 HO_0) (Kd.R_base ho0) hb);replace HO_5:=am (Kd.S_elder' (Z12 HO_5) (Kd.R_base ho0) hb);have HOod:=am (Kd.R_lower (Kd.R_new' (Kd.R_newM (M:=fun k_=>(w.heap.size≤k_)) ho0 zs_ (fun k_ h_=>h_)) (Kd.R_lt (Z1 HO_6))) zs_);replace HO_6:=am (Kd.R_elder' (Z1 HO_6) (Kd.R_base ho0) hb);replace HB:=bw_ hb;clear hb;(try clear ho0);obtain⟨Ao31,co31,eo31⟩:=Kd.R_slice HOod.1;subst eo31)|((with_reducible refine gc_ 49 rfl ?_);refine gE_ (some 22) Tryz.func49 (slices_Clone_int_int.calls _ _ t465 t468 _ ?side1 ?side2 A15.1) ?_;(case side1=>exact(Z10 HOod));(case side2=>exact(Kd.R_reads' HOod.1).2.1);rintro v469 w32 ⟨ho0,hb⟩;replace HO_0:=am (Kd.V_elder' (Z17 HO_0) (Kd.R_base ho0) hb);replace HO_5:=am (Kd.S_elder' (Z12 HO_5) (Kd.R_base ho0) hb);have HOoe:=am (Kd.R_lower (Kd.R_new' (Kd.R_new' (Kd.R_newM (M:=fun k_=>(w.heap.size≤k_)) ho0 zs_ (fun k_ h_=>h_)) (Kd.R_lt (Z1 HO_6))) (Kd.R_lt (Z1 HOod))) zs_);replace HO_6:=am (Kd.R_elder' (Z1 HO_6) (Kd.R_base ho0) hb);replace HOod:=am (Kd.R_elder' (Z1 HOod) (Kd.R_base ho0) hb);replace HB:=bw_ hb;clear hb;(try clear ho0);obtain⟨Ao34,co34,eo34⟩:=Kd.R_slice HOoe.1;subst eo34)|((with_reducible refine gate_builtin (b:= .append) (xs:=#[.tmp 20,.tmp 23]) rfl ?_);at_builtin;refine Kd.S_append (Kd.slice 3 (Kd.int .i64)) (w0:=w) w.heap.size rfl (.tmp 20) (.tmp 23) 42 30 (.slice none 0 0) 24 rfl Tryz.underlying42 info30 rfl (by decide) (by omega) u5 x5_1 t468 [.slice Ao34 t468.length co34] (fun k_=>(w.heap.size≤k_)∧some k_≠(u6:Value).ownBlock∧some k_≠(.slice Ao31 t465.length co31:Value).ownBlock) (fun k_=>some k_=(.slice Ao34 t468.length co34:Value).ownBlock) rfl rfl ?aP (fun k_ hk_=>((Kd.R_mono (ok':=fun k_=>((fun k_=>(w.heap.size≤k_)∧some k_≠(u6:Value).ownBlock∧some k_≠(.slice Ao31 t465.length co31:Value).ownBlock)) k_∧some k_≠(u5:Value).ownBlock) (Kd.R_apart' (HOoe.1) (Kd.S_typed HO_5.1) (by decide)) (fun k_ hk=>⟨⟨hk.1.1.1.1,⟨hk.1.1.2,hk.1.2⟩⟩,hk.2⟩))).1 k_ hk_.symm) ?aF ?aO ?aB ?aS ?aL ?_;(case aP=>exact Kd.M_row (Kd.R_mono (Kd.R_tight rfl (Kd.R_mono (ok':=fun k_=>((fun k_=>(w.heap.size≤k_)∧some k_≠(u6:Value).ownBlock∧some k_≠(.slice Ao31 t465.length co31:Value).ownBlock)) k_∧some k_≠(u5:Value).ownBlock) (Kd.R_apart' (HOoe.1) (Kd.S_typed HO_5.1) (by decide)) (fun k_ hk=>⟨⟨hk.1.1.1.1,⟨hk.1.1.2,hk.1.2⟩⟩,hk.2⟩))) (fun _ h_=>h_)));(case aB=>exact ZB);(case aF=>exact(fun k_ hk=>⟨(Nat.le_trans zs_ hk),Kd.fresh' (Kd.R_lt (Z1 HO_6)) k_ hk,Kd.fresh' (Kd.R_lt (Z1 HOod)) k_ hk⟩));(case aO=>exact(by(with_reducible repeat(first|apply Kd.S_alloc|apply Kd.S_drewN|apply Kd.S_drew));exact Kd.S_mono HO_5.1 (fun k_ hk=>⟨⟨hk.1.1.1,⟨hk.1.1.2,hk.1.2⟩⟩,fun e_=>hk.2 e_⟩)));(case aS=>exact zs_);(case aL=>have:=LMc16.out;omega);intro v472 w33 ho hb hg hat;rw[←Ny_c.1]at ho;replace HO_0:=am (Kd.V_afterv (ok:=(fun k_=>(P0_ k_∨w.heap.size≤k_)∧some k_≠(u6:Value).ownBlock∧some k_≠(.slice Ao31 t465.length co31:Value).ownBlock∧some k_≠(.slice Ao34 t468.length co34:Value).ownBlock)) (by(with_reducible repeat(first|apply Kd.V_alloc|apply Kd.V_drewN|apply Kd.V_drew));exact Kd.V_mono HO_0.1 (fun _ hk=>⟨⟨hk.1.1.1,⟨hk.1.1.2.2,⟨hk.1.2,hk.2⟩⟩⟩,hk.1.1.2.1⟩)) hg hat);replace HO_6:=am (Kd.R_over' (Z1 HO_6) (Kd.S_typed (Z12 HO_5)) (by decide) hg);replace HOod:=am (Kd.R_over' (Z1 HOod) (Kd.S_typed (Z12 HO_5)) (by decide) hg);replace HB:=am hb;have HOof:=am ho;clear HOoe HO_5;clear ho hb hg hat)|((with_reducible refine gate_builtin (b:= .append) (xs:=#[.tmp 25,.tmp 27]) rfl ?_);at_builtin;refine Kd.R_append (Kd.int .i64) (w0:=w) w.heap.size rfl (.tmp 25) (.tmp 27) 30 3 (.int .i64 0) 8 rfl Tryz.underlying30 info3 rfl (by decide) (by omega) u6 x6_1 t464 [.int .i64 t464] (fun k_=>(w.heap.size≤k_)∧some k_≠(.slice Ao31 t465.length co31:Value).ownBlock) (fun _=>False) rfl rfl ?aP (fun _ hk=>hk.elim) ?aF ?aO ?aB ?aS ?aL ?_;(case aP=>exact rfl);(case aB=>exact ZB);(case aF=>exact(fun k_ hk=>⟨(Nat.le_trans zs_ hk),Kd.fresh' (Kd.R_lt (Z1 HOod)) k_ hk⟩));(case aO=>exact(by(with_reducible repeat(first|apply Kd.R_alloc|apply Kd.R_drewN|apply Kd.R_drew));exact Kd.R_mono HO_6.1 (fun _ hk=>⟨hk.1.1,hk.1.2⟩)));(case aS=>exact zs_);(case aL=>have:=LMc17.out;omega);intro v475 w35 ho hb hg hat;rw[←Ny_d.1]at ho;replace HO_0:=am (Kd.V_afterv (ok:=(fun k_=>(P0_ k_∨w.heap.size≤k_)∧some k_≠(.slice Ao31 t465.length co31:Value).ownBlock∧some k_≠(v472:Value).ownBlock)) (by(with_reducible repeat(first|apply Kd.V_alloc|apply Kd.V_drewN|apply Kd.V_drew));exact Kd.V_mono HO_0.1 (fun _ hk=>⟨⟨hk.1.1,⟨hk.1.2.2.1,hk.2⟩⟩,hk.1.2.1⟩)) hg hat);replace HOod:=am (Kd.R_after (ok:=(fun k_=>(w.heap.size≤k_))) (by(with_reducible repeat(first|apply Kd.R_alloc|apply Kd.R_drewN|apply Kd.R_drew));exact Kd.R_mono HOod.1 (fun _ hk=>⟨hk.1.1.1,hk.1.2⟩)) hg hat);replace HOof:=am (Kd.S_after (ok:=(fun k_=>(w.heap.size≤k_)∧some k_≠(.slice Ao31 t465.length co31:Value).ownBlock)) (by(with_reducible repeat(first|apply Kd.S_alloc|apply Kd.S_drewN|apply Kd.S_drew));exact Kd.S_mono HOof.1 (fun _ hk=>⟨⟨hk.1,hk.2.2⟩,hk.2.1⟩)) hg hat);replace HB:=am hb;have HOog:=am ho;clear HO_6;clear ho hb hg hat;obtain⟨Ao36,co36,eo36⟩:=Kd.S_slice HOof.1;subst eo36))
 go_roundg k1
 case measure=>have:=HK1.1;omega
 exact⟨(t465),(y_c),(y_d),H',⟨Z34⟩,⟨Kd.R_V (by(with_reducible repeat(first|apply Kd.R_alloc|apply Kd.R_drewN|apply Kd.R_drew));exact Kd.R_mono (Kd.R_apart' HOod.1 (Kd.S_typed HOof.1) (by decide)) (fun _ hk=>⟨.inr hk.1.1,⟨hk.2,hk.1.2⟩⟩))⟩,⟨(by(with_reducible repeat(first|apply Kd.S_alloc|apply Kd.S_drewN|apply Kd.S_drew));exact Kd.S_mono HOof.1 (fun _ hk=>⟨hk.1.1,hk.2⟩))⟩,⟨(Z32 HOog)⟩,⟨ZB⟩⟩
def impl_DownPath.f (k:Nat) (l0:List Int):Option ((List (List Int))× Bool):=(impl_IsQuad.f k l0).bind fun t477=>(if t477=true then((impl_down.f k l0).bind fun bt478=>(some (bt478.1,bt478.2.2)))else(some (([]:List (List Int)),false)))
theorem impl_DownPath.mono:∀a0 k,LeO (impl_DownPath.f k a0) (impl_DownPath.f (k+1) a0):=by
  intro a0 k
  unfold impl_DownPath.f
  exact mo_
set_option maxHeartbeats 8000000 in
set_option maxRecDepth 100000 in
theorem impl_DownPath.calls (k:Nat) (A0:Option Addr) (c0:Nat) (l0:List Int) (r1:List (List Int)) (r2:Bool) (w:World) (hr0:Kd.C (Kd.int .i64) w A0 l0.length l0) (hc0:l0.length≤c0) (h:impl_DownPath.f k l0=some (r1,r2)):
  Calls Tryz.prog 95 #[.slice A0 l0.length c0] w fun e w'=>∃v0_:Value,e= .returned (.tuple #[v0_,.bool r2])∧Kd.S (Kd.slice 3 (Kd.int .i64)) 30 w' w.heap.size (fun _=>True) v0_ r1∧Below w.heap.size w w':=by
 have HR0:=am hr0
 have HC0:=am hc0
 clear hr0 hc0
 have HB:=am (Below.refl w.heap.size w)
 have H:=h
 clear h
 unfold impl_DownPath.f at H
 obtain⟨t477,A2,H⟩:=bs_ H
 try dsimp only at H
 by_cases c3:t477=true
 rotate_left
 ·
  replace c3:=Bool.eq_false_iff.mpr c3
  subst c3
  rw[if_neg (show¬(false=true) by decide)]at H
  simp only[Option.some.injEq,Prod.mk.injEq]at H
  obtain⟨rfl,rfl⟩:=H
  go_enter Tryz.func95,Tryz.ntmps95
  go_wp2_with (first|((with_reducible refine gc_ 35 rfl ?_);refine gM_ (some 8) Tryz.func35 (impl_IsQuad.calls k _ _ l0 false _ ?side1 ?side2 A2.1) ?_;(case side1=>exact(Z11 HR0));(case side2=>exact HC0.1);intro w7 hb;replace HB:=bw_ hb;clear hb))
  go_ret2
  exact⟨_,Z6,Z33,ZB⟩
 subst c3
 rw[if_pos rfl]at H
 obtain⟨⟨t478,t481,t484⟩,A4,H⟩:=bs_ H
 try dsimp only at H
 simp only[Option.some.injEq,Prod.mk.injEq]at H
 obtain⟨rfl,rfl⟩:=H
 go_enter Tryz.func95,Tryz.ntmps95
 go_wp2_with (first|((with_reducible refine gc_ 35 rfl ?_);refine gM_ (some 8) Tryz.func35 (impl_IsQuad.calls k _ _ l0 true _ ?side1 ?side2 A2.1) ?_;(case side1=>exact(Z11 HR0));(case side2=>exact HC0.1);intro w5 hb;replace HB:=bw_ hb;clear hb)|((with_reducible refine gc_ 115 rfl ?_);refine goesN_ 115 (some 12) Tryz.func115 #[.slice A0 l0.length c0] ?_;(with_reducible refine(impl_down.calls k (fun k_=>k_<w.heap.size) _ _ l0 t478 t481 t484 _ ?side1 A4.1).mono ?_);(case side1=>exact Kd.V_mk HC0.1 (Kd.F_below (Kd.C_F (Kd.heap_int .i64) HR0.1) ZB));rintro e w6 ⟨v479,v482,rfl,ho0,ho1,hb⟩;refine⟨_,rfl,?_⟩;have HOoa:=am (Kd.S_lower (Kd.S_mono (ok':=fun k_=>some k_≠(v482:Value).ownBlock) ho0 (fun _ hk_=>hk_.2)) zs_);have HOob:=am (Kd.R_lower (Kd.R_mono (ok':=fun k_=>True) ho1 (fun _ hk_=>trivial)) zs_);replace HB:=bw_ hb;clear hb;(try clear ho0);(try clear ho1)))
 go_ret2
 exact⟨_,Z6,(Z48 HOoa),ZB⟩
section
open Go.Shelf in
def laysSI_ren:Go.Shelf.Ren:=⟨fun|189=>81|125=>99|257=>98|128=>127|129=>128|294=>118|295=>119|296=>120|297=>121|298=>122|299=>123|216=>124|300=>125|301=>126|328=>141|329=>142|330=>143|331=>144|332=>145|215=>146|343=>162|n=>n,fun|28=>30|3=>3|46=>118|0=>0|51=>143|53=>56|4=>4|183=>137|182=>136|131=>33|5=>5|9=>9|218=>157|222=>161|228=>176|229=>177|n=>n,fun|n=>n⟩
theorem laysSI:Go.Proofs.Lays.n189 Tryz.prog laysSI_ren:={
  mixed:=by kernel_rfl
  f125:=Tryz.func99.trans (congrArg some Z19)
  f128:=Tryz.func127.trans (congrArg some Z19)
  f129:=Tryz.func128.trans (congrArg some Z19)
  f189:=Tryz.func81.trans (congrArg some Z19)
  f215:=Tryz.func146.trans (congrArg some Z19)
  f216:=Tryz.func124.trans (congrArg some Z19)
  f257:=Tryz.func98.trans (congrArg some Z19)
  f294:=Tryz.func118.trans (congrArg some Z19)
  f295:=Tryz.func119.trans (congrArg some Z19)
  f296:=Tryz.func120.trans (congrArg some Z19)
  f297:=Tryz.func121.trans (congrArg some Z19)
  f298:=Tryz.func122.trans (congrArg some Z19)
  f299:=Tryz.func123.trans (congrArg some Z19)
  f300:=Tryz.func125.trans (congrArg some Z19)
  f301:=Tryz.func126.trans (congrArg some Z19)
  f328:=Tryz.func141.trans (congrArg some Z19)
  f329:=Tryz.func142.trans (congrArg some Z19)
  f330:=Tryz.func143.trans (congrArg some Z19)
  f331:=Tryz.func144.trans (congrArg some Z19)
  f332:=Tryz.func145.trans (congrArg some Z19)
  f343:=Tryz.func162.trans (congrArg some Z19)
  t0:=Tryz.underlying0
  a0:=Tryz.isAgg0
  z0:=Tryz.sizeOf0
  v0:=Tryz.zeroValue0
  t3:=Tryz.underlying3
  a3:=Tryz.isAgg3
  z3:=Tryz.sizeOf3
  v3:=Tryz.zeroValue3
  t4:=Tryz.underlying4
  a4:=Tryz.isAgg4
  z4:=Tryz.sizeOf4
  v4:=Tryz.zeroValue4
  t5:=Tryz.underlying5
  a5:=Tryz.isAgg5
  z5:=Tryz.sizeOf5
  v5:=Tryz.zeroValue5
  t9:=Tryz.underlying9
  a9:=Tryz.isAgg9
  z9:=Tryz.sizeOf9
  v9:=Tryz.zeroValue9
  t28:=Tryz.underlying30
  a28:=Tryz.isAgg30
  z28:=Tryz.sizeOf30
  v28:=Tryz.zeroValue30
  t46:=Tryz.underlying118
  a46:=Tryz.isAgg118
  z46:=Tryz.sizeOf118
  v46:=Tryz.zeroValue118
  t51:=Tryz.underlying143
  a51:=Tryz.isAgg143
  z51:=Tryz.sizeOf143
  v51:=Tryz.zeroValue143
  t53:=Tryz.underlying56
  a53:=Tryz.isAgg56
  z53:=Tryz.sizeOf56
  v53:=Tryz.zeroValue56
  t131:=Tryz.underlying33
  a131:=Tryz.isAgg33
  z131:=Tryz.sizeOf33
  v131:=Tryz.zeroValue33
  t182:=Tryz.underlying136
  a182:=Tryz.isAgg136
  z182:=Tryz.sizeOf136
  v182:=Tryz.zeroValue136
  t183:=Tryz.underlying137
  a183:=Tryz.isAgg137
  z183:=Tryz.sizeOf137
  v183:=Tryz.zeroValue137
  t218:=Tryz.underlying157
  a218:=Tryz.isAgg157
  z218:=Tryz.sizeOf157
  v218:=Tryz.zeroValue157
  t222:=Tryz.underlying161
  a222:=Tryz.isAgg161
  z222:=Tryz.sizeOf161
  v222:=Tryz.zeroValue161
  t228:=Tryz.underlying176
  a228:=Tryz.isAgg176
  z228:=Tryz.sizeOf176
  v228:=Tryz.zeroValue176
  t229:=Tryz.underlying177
  a229:=Tryz.isAgg177
  z229:=Tryz.sizeOf177
  v229:=Tryz.zeroValue177}
def insI (x:Int):List Int→List Int
  |[]=>[x]
  |y::t=>if x≤y then x::y::t else y::insI x t
def sortI:List Int→List Int
  |[]=>[]
  |x::t=>insI x (sortI t)
theorem insI_perm (x:Int):∀l,(insI x l).Perm (x::l)
  |[]=>List.Perm.refl _
  |y::t=>by
    simp only[insI]
    split
    · exact List.Perm.refl _
    · exact((insI_perm x t).cons y).trans (List.Perm.swap x y t)
theorem insI_mem {x z:Int} {l:List Int} (h:z∈insI x l):z=x∨z∈l:=by
  simpa using(insI_perm x l).mem_iff.1 h
theorem insI_pw (x:Int):∀l:List Int,l.Pairwise (fun a b=>a≤b)→(insI x l).Pairwise (fun a b=>a≤b)
  |[],_=>by simp[insI]
  |y::t,h=>by
    simp only[insI]
    rw[List.pairwise_cons]at h
    split
    · rename_i hxy
      refine List.pairwise_cons.2 ⟨fun b hb=>?_,List.pairwise_cons.2 h⟩
      rcases List.mem_cons.1 hb with rfl|hb
      · exact hxy
      · exact Int.le_trans hxy (h.1 b hb)
    · rename_i hxy
      refine List.pairwise_cons.2 ⟨fun b hb=>?_,insI_pw x t h.2⟩
      rcases insI_mem hb with rfl|hb
      · omega
      · exact h.1 b hb
theorem sortI_perm:∀l,(sortI l).Perm l
  |[]=>List.Perm.refl _
  |x::t=>(insI_perm x (sortI t)).trans ((sortI_perm t).cons x)
theorem sortI_pw:∀l,(sortI l).Pairwise (fun a b=>a≤b)
  |[]=>List.Pairwise.nil
  |x::t=>insI_pw x _ (sortI_pw t)
theorem sortI_ms (l:List Int):(l.mergeSort fun x y=>decide (x≤y))=sortI l:=by
  refine List.Perm.eq_of_pairwise (le:=fun a b=>a≤b) (fun a b _ _ h1 h2=>Int.le_antisymm h1 h2) ?_ (sortI_pw l) ((List.mergeSort_perm l _).trans (sortI_perm l).symm)
  have:=List.pairwise_mergeSort (le:=fun x y:Int=>decide (x≤y)) (fun a b c h1 h2=>by simp only[decide_eq_true_eq]at*;omega) (fun a b=>by simp only[Bool.or_eq_true,decide_eq_true_eq];omega) l
  exact this.imp (fun h=>by simpa using h)
theorem sortI_len (l:List Int):(sortI l).length=l.length:=(sortI_perm l).length_eq
def slices_Sort_int_int.f (l0:List Int):Option (List Int):=if(decide (0<l0.length)&&decide (l0.length<4611686018427387904))=true then some (sortI l0)else none
set_option maxHeartbeats 8000000 in
set_option maxRecDepth 100000 in
theorem slices_Sort_int_int.calls (P0_:Nat→Prop) (u9000_:Value) (l0 r:List Int) (w0 w:World) (hB:Below w0.heap.size w0 w) (ho0:Kd.R (Kd.int .i64) 3 w w0.heap.size P0_ u9000_ l0) (h:slices_Sort_int_int.f l0=some r):
  Calls Tryz.prog 81 #[u9000_] w fun e w'=>e= .returned (.tuple #[])∧Kd.R (Kd.int .i64) 3 w' w0.heap.size (fun k_=>(P0_ k_∨w.heap.size≤k_)) u9000_ r∧Below w0.heap.size w0 w'∧Kept w w' (fun k_=>P0_ k_):=by
 have hl:(0<l0.length∧l0.length<4611686018427387904)∧sortI l0=r:=by
  unfold slices_Sort_int_int.f at h
  split at h
  ·
   rename_i h1
   simp only[Bool.and_eq_true,decide_eq_true_eq]at h1
   exact⟨h1,Option.some.inj h⟩
  cases h
 obtain⟨⟨hpos,hsz⟩,rfl⟩:=hl
 obtain⟨g,cap,rfl,hbase,hgl,cells,hgb⟩:=Kd.R_form ho0 hpos
 have hP:=ho0.1
 obtain⟨inner,hown⟩:=Kd.R_own ho0
 have hown2:=Kd.own_of_R ho0
 rcases hown2.2 with⟨h0,_⟩|⟨g',cap',cur,hv,hg,hgb2,hn,hcap,hcs,htk⟩
 ·
  cases h0
 cases hv
 have hH:Go.Sort.Holds (Value.int .i64) w g 0 l0.toArray:=holds_of_blockI hgb2 (by simpa[encs]using htk)
 have hcon:=Any.slices_Sort_int laysSI g 0 cap l0 w hH hgl hsz
 change Calls Tryz.prog 81 _ _ _ at hcon
 refine hcon.mono ?_
 rintro e w' ⟨rfl,n,os,rfl⟩
 have hgr:=grownBy_sortedI (w:=w) (g:=g) (n:=n) (os:=os) (l0.mergeSort fun x y=>decide (x≤y)).toArray
 have ho:=ownsRow_sortedI (w:=w) (base:=w0.heap.size) (g:=g) (cap:=cap) (n:=n) (os:=os) (ss:=l0) (ts:=l0.mergeSort fun x y=>decide (x≤y)) (by simp) hbase hgb2 hn hcap hcs
 refine⟨rfl,?_,hB.grown hgr hB.size (fun k e_=>by cases e_;exact hbase),Kept.of_grown hgr (Kept.refl _ _) (fun k e_=> .inl (by cases e_;exact hP g rfl))⟩
 refine Kd.R_of_own (enc:=Value.int .i64) ?_ (fun k hk=> .inl (hP k hk))
 rw[←sortI_ms,List.length_mergeSort]
 exact ho
open Go.Shelf in
def laysSO_ren:Go.Shelf.Ren:=⟨fun|6=>96|8=>116|9=>81|11=>140|13=>99|12=>98|23=>127|24=>128|14=>118|15=>119|16=>120|17=>121|18=>122|19=>123|20=>124|21=>125|22=>126|25=>141|26=>142|27=>143|28=>144|29=>145|30=>146|31=>162|n=>n,fun|26=>3|28=>114|24=>30|0=>0|3=>3|37=>118|48=>143|50=>56|4=>4|40=>137|39=>136|45=>33|5=>5|9=>9|51=>157|55=>161|57=>176|58=>177|33=>60|n=>n,fun|n=>n⟩
theorem laysSO:Go.Proofs.SlLaysZI.n6 Tryz.prog laysSO_ren:={
  mixed:=by kernel_rfl
  f6:=⟨Tryz.f96.name,by decide,Tryz.func96.trans (congrArg some Z19)⟩
  f8:=⟨Tryz.f116.name,by decide,Tryz.func116.trans (congrArg some Z19)⟩
  f11:=⟨Tryz.f140.name,by decide,Tryz.func140.trans (congrArg some Z19)⟩
  t0:=Tryz.underlying0
  a0:=Tryz.isAgg0
  z0:=Tryz.sizeOf0
  v0:=Tryz.zeroValue0
  t24:=Tryz.underlying30
  a24:=Tryz.isAgg30
  z24:=Tryz.sizeOf30
  v24:=Tryz.zeroValue30
  t26:=Tryz.underlying3
  a26:=Tryz.isAgg3
  z26:=Tryz.sizeOf3
  v26:=Tryz.zeroValue3
  t28:=Tryz.underlying114
  a28:=Tryz.isAgg114
  z28:=Tryz.sizeOf114
  v28:=Tryz.zeroValue114
  i26:=by kernel_rfl}
section
open Go.Maps Go.Sort Go.Shelf
def GivesB (F:Fence) (n:Nat) (P:Program) (g:Nat) (lb:Array Value) (n₀:Nat) (zs:List Int) (w:World):Prop:=
  ∀(l:Nat) (J:List Int→World→Prop) (W:World),Below w.heap.size w W→
    (∀pre x W1,J pre W1→pre.length<zs.length→YieldAt F (n-1) P l #[encZ x] W1 fun e W'=>e= .returned (.bool true)∧J (pre++[x]) W'∧Below n₀ W1 W')→
    J [] W→CallsIn F n P g (#[.func (.yield l) #[] #[]]++lb) W fun e W'=>(∃v,e= .returned v)∧J zs W'
theorem below_two {n₀ B:Nat} {w A C:World} (h:n₀≤B) (ha:Below B w A) (hc:Below B w C) (hs:A.heap.size≤C.heap.size):Below n₀ A C:=
  ⟨hc.os.trans ha.os.symm,hc.tape.trans ha.tape.symm,hc.output.trans ha.output.symm,hs,fun k hk=>(hc.block k (Nat.lt_of_lt_of_le hk h)).trans (ha.block k (Nat.lt_of_lt_of_le hk h)).symm⟩
set_option maxRecDepth 100000 in
set_option maxHeartbeats 2000000 in
theorem appendSeqB_in {P:Program} {ρ:Ren} (L:SlLaysZI.n11 P ρ) (F:Fence) (n:Nat) (h11:F.fn (ρ.f 11)) (hro:F.round=none) (hn:2≤n) (g:Nat) (lb:Array Value) (hFg:F.fn g) (eg:∀args w,(callFunc g args).run P w= .ok (.enter g args) w)
    (zs:List Int) (n₀:Nat) (hN:zs.length≤maxLen) (hNb:zs.length*8≤140737488355328) (w:World) (hn₀:n₀≤w.heap.size) (hseq:GivesB F (n-1) P g lb n₀ zs w):
    CallsIn F n P (ρ.f 11) #[.slice none 0 0,.func (.func g) #[] lb] w fun e w'=>∃(v:Value),e= .returned v∧w'.ownsRow w.heap.size (ρ.t 26) 1 v zs.length (zs.map encZ)∧Below w.heap.size w w':=by
  have h1:1≤n:=by omega
  have mixed:=L.mixed;have t0:=L.t0;have a0:=L.a0;have z0:=L.z0;have v0:=L.v0;have t24:=L.t24;have a24:=L.a24;have z24:=L.z24;have v24:=L.v24;have t26:=L.t26;have a26:=L.a26;have z26:=L.z26;have v26:=L.v26;have t28:=L.t28;have a28:=L.a28;have z28:=L.z28;have v28:=L.v28
  have hne:ρ.t 24≠ρ.t 26:=fun e=>by have h:=L.t24;rw[e,L.t26]at h;cases h
  have u0:=run_underlying L.t0;have u24:=run_underlying L.t24;have u26:=run_underlying L.t26;have u28:=run_underlying L.t28
  obtain⟨_,_,FG⟩:=L.f11
  refine callsIn_of_wp_marks FG rfl h11 ?_ hro
  simp only[SlBodyZ.n11_ntmps ρ,List.size_toArray,List.length_cons,List.length_nil,Nat.reduceAdd,Nat.reduceSub,Array.replicate_succ,Array.replicate_zero,List.push_toArray,List.append_toArray,List.nil_append,List.cons_append]
  gi_wp2
  refine wpIn_rangeFunc ?_
  intro fn hfn
  rw[hro]
  obtain⟨W0,hW0⟩:∃W0,w.alloc (.cells #[.slice none 0 0] (ρ.t 24))=W0:=⟨_,rfl⟩
  have hs0:W0.heap.size=w.heap.size+1:=by rw[←hW0];simp
  have hv0:W0.heap[w.heap.size]?=some (.cells #[.slice none 0 0] (ρ.t 24) (0,0)):=by rw[←hW0];exact World.alloc_heap_new w _
  have hb0:Below w.heap.size w W0:=by rw[←hW0];exact(Below.refl _ w).alloc (Nat.le_refl _) _
  rw[hW0]
  obtain⟨W1,hW1⟩:∃W1,(W0.alloc (.deferred (some []))).alloc (.loop (AnyZI.apRec ρ fn (.func (.func g) #[] lb) w.heap.size W0.heap.size .ready none))=W1:=⟨_,rfl⟩
  have hold:∀k,k<W0.heap.size→W1.heap[k]?=W0.heap[k]?:=fun k hk=>by
    rw[←hW1];exact(Below.heap_alloc _ _ k (by simp;omega)).trans (Below.heap_alloc _ _ k hk)
  have hb1:Below w.heap.size w W1:=by rw[←hW1];exact(hb0.alloc hb0.size _).alloc (by have:=hb0.size;simp;omega) _
  have hs1:W1.heap.size=W0.heap.size+2:=by rw[←hW1];simp
  have hM:AnyZI.ApAt ρ w fn (.func (.func g) #[] lb) w.heap.size (W0.heap.size+1) W0.heap.size [] W1:=
    ⟨⟨_,(hold w.heap.size (by omega)).trans hv0,⟨rfl,.inl ⟨rfl,rfl⟩⟩,by simp⟩,
     by rw[←hW1];have:=World.alloc_heap_new (W0.alloc (.deferred (some []))) (.loop (AnyZI.apRec ρ fn (.func (.func g) #[] lb) w.heap.size W0.heap.size .ready none));rwa [World.size_alloc]at this,
     by rw[←hW1];exact(Below.heap_alloc _ _ _ (by simp)).trans (World.alloc_heap_new W0 _),hb1⟩
  refine⟨W0.heap.size+1,[{target:= .collected W0.heap.size,args:=#[]}],W1,{target:= .fn (.func g) lb,args:=#[.func (.yield (W0.heap.size+1)) #[] #[]]},W1,g,
    #[.func (.yield (W0.heap.size+1)) #[] #[]]++lb,W1,?_,?_,?_,?_,fun _=>h1,?_⟩
  · rw[←hW1];exact run_enterLoop_outer _ _ _ _ _
  · simp[resolve,go_sem]
  · intro f' hf';simp[Target.leads]at hf';subst hf';exact hFg
  · simp[invoke,go_sem,eg]
  · refine(hseq (W0.heap.size+1) (AnyZI.ApAt ρ w fn (.func (.func g) #[] lb) w.heap.size (W0.heap.size+1) W0.heap.size) W1 hb1
      (fun pre x W hJ hl=>(AnyZI.apYield {L with} F (n-1-1) w fn hfn _ w.heap.size (W0.heap.size+1) W0.heap.size (by omega) (by omega) (by omega) (Nat.le_refl _) (by omega) zs.length hN hNb pre x W hJ hl).mono (fun e W' h=>⟨h.1,h.2.1,below_two hn₀ hJ.below h.2.1.below h.2.2.size⟩)) hM).mono ?_
    rintro e W2 ⟨⟨v0,rfl⟩,h2⟩
    obtain⟨v,hv,hrow,hnil⟩:=h2.box
    have hend:=run_endLoop (P:=P) h2.L (by simp[AnyZI.apRec])
    obtain⟨W3,hW3⟩:∃W3,W2.putObj (W0.heap.size+1) (.loop {AnyZI.apRec ρ fn (.func (.func g) #[] lb) w.heap.size W0.heap.size .ready none with state:= .exhausted})=W3:=⟨_,rfl⟩
    rw[hW3]at hend
    have hg3:W2.grownBy W3 (some (W0.heap.size+1)):=by rw[←hW3];exact grownBy_putObj_a _ _ _
    have hv3:W3.heap[w.heap.size]?=some (.cells #[v] (ρ.t 24) (0,0)):=by rw[←hW3];exact(World.putObj_heap_other (by omega)).trans hv
    have hK3:W3.heap[W0.heap.size]?=some (.deferred (some [])):=by rw[←hW3];exact(World.putObj_heap_other (by omega)).trans h2.K
    have hrow3:=hrow.kept hg3 (ownsRow_ne_a hrow h2.L (fun cur e=>by first|cases e|exact hne (Obj.cells.inj e).2.1))
    have hb3:Below w.heap.size w W3:=h2.below.grown hg3 h2.below.size (fun k e=>by cases e;omega)
    obtain⟨hc3,hf3⟩:=cell_of_box_a hv3
    clear hW3
    refine⟨none,W3,hend,?_⟩
    gi_wp2
    rw[←hs0]
    refine⟨by simp,.inl ⟨_,_,rfl,run_takeDeferred hK3,?_⟩⟩
    exact⟨_,results_tmp rfl _ _ _,v,rfl,hrow3.kept (grownBy_putObj_a _ _ _) (ownsRow_ne_a hrow3 hK3 (fun cur e=>by first|cases e|exact hne (Obj.cells.inj e).2.1)),hb3.grown (grownBy_putObj_a _ _ _) hb3.size (fun k e=>by cases e;omega)⟩
set_option maxRecDepth 100000 in
set_option maxHeartbeats 2000000 in
theorem collectB_in {P:Program} {ρ:Ren} (L:SlLaysZI.n8 P ρ) (F:Fence) (n:Nat) (h8:F.fn (ρ.f 8)) (h11:F.fn (ρ.f 11)) (hro:F.round=none) (hn:3≤n) (g:Nat) (lb:Array Value) (hFg:F.fn g) (eg:∀args w,(callFunc g args).run P w= .ok (.enter g args) w)
    (zs:List Int) (n₀:Nat) (hN:zs.length≤maxLen) (hNb:zs.length*8≤140737488355328) (w:World) (hn₀:n₀≤w.heap.size) (hseq:GivesB F (n-1-1) P g lb n₀ zs w):
    CallsIn F n P (ρ.f 8) #[.func (.func g) #[] lb] w fun e w'=>∃(v:Value),e= .returned v∧w'.ownsRow w.heap.size (ρ.t 26) 1 v zs.length (zs.map encZ)∧Below w.heap.size w w':=by
  have h1:1≤n:=by omega
  have e11:∀args w,(callFunc (ρ.f 11) args).run P w= .ok (.enter (ρ.f 11) args) w:=L.f11.enters rfl
  have mixed:=L.mixed;have t0:=L.t0;have a0:=L.a0;have z0:=L.z0;have v0:=L.v0;have t24:=L.t24;have a24:=L.a24;have z24:=L.z24;have v24:=L.v24;have t26:=L.t26;have a26:=L.a26;have z26:=L.z26;have v26:=L.v26;have t28:=L.t28;have a28:=L.a28;have z28:=L.z28;have v28:=L.v28
  have u0:=run_underlying L.t0;have u24:=run_underlying L.t24;have u26:=run_underlying L.t26;have u28:=run_underlying L.t28
  obtain⟨_,_,FG⟩:=L.f8
  refine callsIn_of_wp FG rfl h8 ?_ hro
  simp only[SlBodyZ.n8_ntmps ρ,List.size_toArray,List.length_cons,List.length_nil,Nat.reduceAdd,Nat.reduceSub,Array.replicate_succ,Array.replicate_zero,List.push_toArray,List.append_toArray,List.nil_append,List.cons_append]
  gi_wp2_with (gi_at_fn (ρ.f 11);refine(appendSeqB_in {L with} F (n-1) h11 hro (by omega) g lb hFg eg zs n₀ hN hNb _ hn₀ hseq).mono ?_;rintro e w' ⟨v,rfl,hrow,hb⟩)
  go_ret
  exact⟨v,rfl,hrow,hb⟩
set_option maxRecDepth 100000 in
set_option maxHeartbeats 2000000 in
theorem sortedB_in {P:Program} {ρ:Ren} (L:SlLaysZI.n6 P ρ) (F:Fence) (n:Nat) (h6:F.fn (ρ.f 6)) (h8:F.fn (ρ.f 8)) (h9:F.fn (ρ.f 9)) (h11:F.fn (ρ.f 11)) (hro:F.round=none) (hn:4≤n) (hsort:∀(blk off cap:Nat) (ss:List Int) (W:World),Holds encZ W blk off ss.toArray→blk<W.heap.size→ss.length<4611686018427387904→CallsIn F (n-1) P (ρ.f 9) #[.slice (some ⟨blk,off,none⟩) ss.length cap] W fun e w'=>e= .returned (.tuple #[])∧∃k os,w'=grow (putRow encZ (Sort.ahead W k) blk off (ss.mergeSort fun x y=>decide (x≤y)).toArray) os) (e9:∀args w,(callFunc (ρ.f 9) args).run P w= .ok (.enter (ρ.f 9) args) w) (g:Nat) (lb:Array Value) (hFg:F.fn g) (eg:∀args w,(callFunc g args).run P w= .ok (.enter g args) w)
    (zs:List Int) (h0:zs≠[]) (n₀:Nat) (hN:zs.length≤maxLen) (hNb:zs.length*8≤140737488355328) (w:World) (hn₀:n₀≤w.heap.size) (hseq:GivesB F (n-1-1-1) P g lb n₀ zs w):
    CallsIn F n P (ρ.f 6) #[.func (.func g) #[] lb] w fun e w'=>∃(v:Value),e= .returned v∧w'.ownsRow w.heap.size (ρ.t 26) 1 v zs.length ((zs.mergeSort (fun x y=>decide (x≤y))).map encZ)∧Below w.heap.size w w':=by
  have h1:1≤n:=by omega
  have e8:∀args w,(callFunc (ρ.f 8) args).run P w= .ok (.enter (ρ.f 8) args) w:=L.f8.enters rfl
  have mixed:=L.mixed;have t0:=L.t0;have a0:=L.a0;have z0:=L.z0;have v0:=L.v0;have t24:=L.t24;have a24:=L.a24;have z24:=L.z24;have v24:=L.v24;have t26:=L.t26;have a26:=L.a26;have z26:=L.z26;have v26:=L.v26;have t28:=L.t28;have a28:=L.a28;have z28:=L.z28;have v28:=L.v28
  have u0:=run_underlying L.t0;have u24:=run_underlying L.t24;have u26:=run_underlying L.t26;have u28:=run_underlying L.t28
  obtain⟨_,_,FG⟩:=L.f6
  refine callsIn_of_wp FG rfl h6 ?_ hro
  simp only[SlBodyZ.n6_ntmps ρ,List.size_toArray,List.length_cons,List.length_nil,Nat.reduceAdd,Nat.reduceSub,Array.replicate_succ,Array.replicate_zero,List.push_toArray,List.append_toArray,List.nil_append,List.cons_append]
  gi_wp2_with (gi_at_fn (ρ.f 8);refine(collectB_in {L with} F (n-1) h8 h11 hro (by omega) g lb hFg eg zs n₀ hN hNb _ hn₀ hseq).mono ?_;rintro e W ⟨v,rfl,hrow,hb⟩)
  rcases hrow.2 with⟨rfl,hz⟩|⟨gb,cap,cur,rfl,hbase,hgb,r1,r2,r3,r4⟩
  · exact absurd (List.eq_nil_of_length_eq_zero hz) h0
  · have hH:Holds encZ W gb 0 zs.toArray:=holds_of_block_i hgb (by simpa using r4)
    have hgl:gb<W.heap.size:=(Array.getElem?_eq_some_iff.1 hgb).1
    have hsz:zs.length<4611686018427387904:=by omega
    have cS:=hsort gb 0 cap zs W hH hgl hsz
    gi_wp2_with (gi_at_fn (ρ.f 9);refine cS.mono ?_;rintro e w' ⟨rfl,nn,os,rfl⟩)
    go_ret
    exact⟨_,rfl,ownsRow_sorted_i (by simp) hbase hgb r1 r2 r3,hb.grown (grownBy_sorted_i _) hb.size (fun j hj=>by cases hj;exact hbase)⟩
end
def uptoZ (zs:List Int) (k:Nat):List Int:=zs.take k
theorem uptoZ_succ (zs:List Int) {k:Nat} (hk:k<zs.length):uptoZ zs (k+1)=uptoZ zs k++[zs.getD k 0]:=by
  unfold uptoZ
  rw[List.take_add_one,List.getD_eq_getElem?_getD,List.getElem?_eq_getElem hk]
  rfl
theorem add_block (a:Addr) (j:Nat):(a.add j).block=a.block:=by unfold Addr.add;split<;>rfl
theorem uptoZ_len (zs:List Int) {k:Nat} (hk:k≤zs.length):(uptoZ zs k).length=k:=by simp[uptoZ,hk]
set_option maxRecDepth 100000 in
set_option maxHeartbeats 2000000 in
theorem values1B_in (F:Fence) (n:Nat) (h7:F.fn 117) (hro:F.round=none) (hn:1≤n) (l Bs n₀:Nat) (ad:Addr) (cap:Nat) (zs:List Int) (hreach:zs.length*8≤140737488351232) (hb:ad.block<n₀) (J:List Int→World→Prop)
    (hY:∀pre x W,J pre W→pre.length<zs.length→YieldAt F (n-1) Tryz.prog l #[.int .i64 x] W fun e W'=>e= .returned (.bool true)∧J (pre++[x]) W'∧Below n₀ W W')
    (W:World) (hBs:W.cell? ⟨Bs,0,none⟩=some (.slice (some ad) zs.length cap)) (hc:∀j,j<zs.length→W.cell? (ad.add j)=some (.int .i64 (zs.getD j 0))) (h0:J [] W):
    CallsIn F n Tryz.prog 117 #[.func (.yield l) #[] #[],.pointer (some ⟨Bs,0,none⟩)] W fun e W'=>(∃v,e= .returned v)∧J zs W':=by
  refine callsIn_of_wp Tryz.func117 rfl h7 ?_ hro
  simp only[Tryz.ntmps117,List.size_toArray,List.length_cons,List.length_nil,Nat.reduceAdd,Nat.reduceSub,Array.replicate_succ,Array.replicate_zero,List.push_toArray,List.append_toArray,List.nil_append,List.cons_append]
  gi_wp2
  gi_loopw [7] (fun i wr=>∃k:Nat,k≤zs.length∧i= .int .i64 k∧J (uptoZ zs k) wr∧Below n₀ W wr)
    (fun i _=>zs.length-(intOf i).toNat)
  case atStart=>exact⟨0,Nat.zero_le _,rfl,h0,Below.refl _ _⟩
  case round=>
    obtain⟨k,hk,rfl,hJs,hnx⟩:=hrel
    have hcx:k<zs.length→wr.cell? (ad.add k)=some (.int .i64 (zs.getD k 0)):=fun h=>(hnx.cell (p:=ad.add k) (by rw[add_block];exact hb)).trans (hc k h)
    obtain⟨zx,hzx⟩:∃x,zs.getD k 0=x:=⟨_,rfl⟩
    by_cases hlt:k<zs.length
    · obtain⟨fn,tmps,assign,body,hy,hR⟩:=hY _ (zs.getD k 0) wr hJs (by rw[uptoZ_len zs hk];exact hlt)
      have hcx':=hcx hlt
      rw[show(zs.getD k 0)=zx by exact hzx]at hcx' hy
      clear hcx
      gi_wp2
      refine hR.mono ?_
      rintro e W3 ⟨rfl,hJ3,hk3⟩
      gi_wp2
      go_roundw
      case rel=>exact⟨k+1,by omega,by simp,by rw[uptoZ_succ zs hlt,hzx];rw[hzx]at hJ3;exact hJ3,hnx.trans hk3⟩
      case measure=>simp[intOf];omega
    · obtain rfl:k=zs.length:=by omega
      gi_wp2
      go_end0
      exact⟨⟨_,rfl⟩,by simpa[uptoZ]using hJs⟩
set_option maxHeartbeats 1000000 in
theorem valuesB_calls (a:Option Addr) (len cap:Nat) (w:World):
  Calls Tryz.prog 97 #[.slice a len cap] w fun e w'=>e= .returned (.func (.func 117) #[] #[.pointer (some ⟨w.heap.size,0,none⟩)])∧w'=w.alloc (.cells #[.slice a len cap] 30):=by
 go_enter Tryz.func97,Tryz.ntmps97
 go_wp2
 go_ret
 exact⟨rfl,rfl⟩
def slices_Sorted_int.f (l0:List Int):Option (List Int):=if(decide (0<l0.length)&&decide (l0.length<17592186043904))=true then some (sortI l0)else none
set_option maxHeartbeats 4000000 in
theorem slices_Sorted_int.calls (A0:Option Addr) (c0:Nat) (l0:List Int) (r:List Int) (w:World) (hr0:Kd.C (Kd.int .i64) w A0 l0.length l0) (hc0:l0.length≤c0) (h:slices_Sorted_int.f l0=some r):
  Calls Tryz.prog 96 #[.func (.func 117) #[] #[.pointer (some ⟨w.heap.size,0,none⟩)]] (w.alloc (.cells #[.slice A0 l0.length c0] 30)) fun e w'=>∃v0_:Value,e= .returned (v0_)∧Kd.R (Kd.int .i64) 3 w' w.heap.size (fun _=>True) v0_ r∧Below w.heap.size w w':=by
 have hl:(0<l0.length∧l0.length<17592186043904)∧sortI l0=r:=by
  unfold slices_Sorted_int.f at h
  split at h
  ·
   rename_i h1
   simp only[Bool.and_eq_true,decide_eq_true_eq]at h1
   exact⟨h1,Option.some.inj h⟩
  cases h
 obtain⟨⟨hpos,hsz⟩,rfl⟩:=hl
 have hrr:=Kd.reads_of_C (enc:=Value.int .i64) (d:=(0:Int)) (h1:=fun _=>rfl) hr0
 obtain⟨ad,rfl,hcell⟩:=hrr.2.2 hpos
 have hlt:ad.block<w.heap.size:=by
  have:=hcell 0 hpos
  exact Nat.lt_of_not_le fun hge=>by
   have hn:w.heap[(ad.add 0).block]?=none:=Array.getElem?_eq_none (by rw[add_block];exact hge)
   simp[World.cell?,hn]at this
 obtain⟨w1,hw1⟩:∃w1,w.alloc (.cells #[.slice (some ad) l0.length c0] 30)=w1:=⟨_,rfl⟩
 have hb1:Below w.heap.size w w1:=by rw[←hw1];exact(Below.refl _ w).alloc (Nat.le_refl _) _
 have hs1:w1.heap.size=w.heap.size+1:=by rw[←hw1];simp
 have hbox:w1.cell? ⟨w.heap.size,0,none⟩=some (.slice (some ad) l0.length c0):=by rw[←hw1];simp
 rw[hw1]
 have hseq:GivesB Fence.wide (4-1-1-1) Tryz.prog 117 #[.pointer (some ⟨w.heap.size,0,none⟩)] w.heap.size l0 w1:=fun l J W hW hY hJ=>
  values1B_in Fence.wide _ trivial rfl (by omega) l w.heap.size w.heap.size ad c0 l0 (by omega) hlt J hY W ((hW.cell (p:=⟨w.heap.size,0,none⟩) (by simp only[hs1];omega)).trans hbox)
   (fun j hj=>(hW.cell (p:=ad.add j) (by rw[add_block];omega)).trans ((hb1.cell (p:=ad.add j) (by rw[add_block];exact hlt)).trans (hcell j hj))) hJ
 have hS:=sortedB_in laysSO Fence.wide 4 trivial trivial trivial trivial rfl (Nat.le_refl _) (fun blk off cap ss W hH hblk hss=>callsIn_wide.2 (Any.slices_Sort_int laysSI blk off cap ss W hH hblk hss))
  (enters_of Tryz.func81 Z19 rfl) 117 _ trivial (enters_of Tryz.func117 Z19 rfl) l0 (by intro e;subst e;simp at hpos) w.heap.size (by unfold maxLen;omega) (by omega) w1 (by omega) hseq
 refine(callsIn_wide.1 hS).mono ?_
 rintro e w' ⟨v,rfl,hown,hb⟩
 rw[sortI_ms]at hown
 refine⟨v,rfl,Kd.R_of_own (enc:=Value.int .i64) ?_ (fun _ _=>trivial),hb1.trans (hb.mono (by omega))⟩
 rw[sortI_len]
 exact own_weaken hown (by omega)
def impl_RootQuad.f (k:Nat) (l0:List Int):Option (List Int × Bool):=(impl_DownPath.f k l0).bind fun bt485=>(if bt485.2=true then(if 0≤(wrap64 ((bt485.1.length:Int)-1))then(if(wrap64 ((bt485.1.length:Int)-1))<(bt485.1.length:Int)then((slices_Sorted_int.f (rd_L5 bt485.1 (wrap64 ((bt485.1.length:Int)-1)))).bind fun t490=>(some (t490,true)))else(none))else(none))else(some (([]:List Int),false)))
theorem impl_RootQuad.mono:∀a0 k,LeO (impl_RootQuad.f k a0) (impl_RootQuad.f (k+1) a0):=by
  intro a0 k
  unfold impl_RootQuad.f
  exact mo_
set_option maxHeartbeats 8000000 in
set_option maxRecDepth 100000 in
theorem impl_RootQuad.calls (k:Nat) (A0:Option Addr) (c0:Nat) (l0:List Int) (r1:List Int) (r2:Bool) (w:World) (hr0:Kd.C (Kd.int .i64) w A0 l0.length l0) (hc0:l0.length≤c0) (h:impl_RootQuad.f k l0=some (r1,r2)):
  Calls Tryz.prog 78 #[.slice A0 l0.length c0] w fun e w'=>∃v0_:Value,e= .returned (.tuple #[v0_,.bool r2])∧Kd.R (Kd.int .i64) 3 w' w.heap.size (fun _=>True) v0_ r1∧Below w.heap.size w w':=by
 have HR0:=am hr0
 have HC0:=am hc0
 clear hr0 hc0
 have HB:=am (Below.refl w.heap.size w)
 have H:=h
 clear h
 unfold impl_RootQuad.f at H
 obtain⟨⟨t485,t486⟩,A2,H⟩:=bs_ H
 try dsimp only at H
 by_cases c3:t486=true
 rotate_left
 ·
  replace c3:=Bool.eq_false_iff.mpr c3
  subst c3
  rw[if_neg (show¬(false=true) by decide)]at H
  simp only[Option.some.injEq,Prod.mk.injEq]at H
  obtain⟨rfl,rfl⟩:=H
  go_enter Tryz.func78,Tryz.ntmps78
  go_wp2_with (first|((with_reducible refine gc_ 95 rfl ?_);refine gE_ (some 8) Tryz.func95 (impl_DownPath.calls k _ _ l0 t485 false _ ?side1 ?side2 A2.1) ?_;(case side1=>exact(Z11 HR0));(case side2=>exact HC0.1);rintro v487 w11 ⟨ho0,hb⟩;have HOoa:=am (Kd.S_lower ho0 zs_);replace HB:=bw_ hb;clear hb;(try clear ho0)))
  go_ret2
  exact⟨_,Z6,Z23,ZB⟩
 subst c3
 rw[if_pos rfl]at H
 obtain⟨ji4,hji4⟩:∃j_:Int,(wrap64 ((t485.length:Int)-1))=j_:=⟨_,rfl⟩
 replace H:(if 0≤(ji4)then(if(ji4)<(t485.length:Int)then((slices_Sorted_int.f (rd_L5 t485 (ji4))).bind fun t490=>(some (t490,true)))else(none))else(none))=some (r1,r2):=by first|(rw[hji4]at H;exact H)|(simp only[hji4]at H ⊢;exact H)
 (try rw[hji4]at A2)
 have hji4w:(IntKind.i64.wrap ((t485.length:Int)-1))=ji4:=(i64_w _).trans hji4
 obtain⟨c5,H⟩:=ip_ H
 have c5b0:=decide_eq_true c5
 clear c5
 obtain⟨c6,H⟩:=ip_ H
 have c6b0:=decide_eq_true c6
 clear c6
 obtain⟨t490,A7,H⟩:=bs_ H
 try dsimp only at H
 simp only[Option.some.injEq,Prod.mk.injEq]at H
 obtain⟨rfl,rfl⟩:=H
 go_enter Tryz.func78,Tryz.ntmps78
 go_wp2_with (first|((with_reducible refine gc_ 95 rfl ?_);refine gE_ (some 8) Tryz.func95 (impl_DownPath.calls k _ _ l0 t485 true _ ?side1 ?side2 A2.1) ?_;(case side1=>exact(Z11 HR0));(case side2=>exact HC0.1);rintro v487 w8 ⟨ho0,hb⟩;have HOoa:=am (Kd.S_lower ho0 zs_);replace HB:=bw_ hb;clear hb;(try clear ho0);obtain⟨Ao9,co9,eo9⟩:=Kd.S_slice HOoa.1;subst eo9;have p489:0≤((ji4):Int):=of_decide_eq_true Z5;have q489:(ji4)<(t485.length:Int):=of_decide_eq_true Z5;obtain⟨ad489,A489_0,c489_0,e489,hx489_0,hl489_0,hi489_0⟩:=at_L5 (Kd.S_reads' HOoa.1).2.2 (ji4) p489 q489;cases e489;obtain⟨ce489,hce489,hMe489,hcc489⟩:=Kd.S_get HOoa.1 [] (ji4) p489 (by first|exact q489|exact of_decide_eq_true Z5|(have e_:=(Kd.S_reads' HOoa.1).1;omega));obtain⟨ve489_0,rfl,ge489_0⟩:=hMe489;have hv489_0:=hcc489 0 _ rfl;rw[Nat.add_zero,show((Kd.slice 3 (Kd.int .i64))).sz=1 from rfl,Nat.mul_one]at hv489_0;replace hv489_0:=Option.some.inj (hv489_0.symm.trans hx489_0);rw[hv489_0]at ge489_0;have HL489_0:=am (show Kd.R (Kd.int .i64) 3 _ _ _ _ (rd_L5 t485 (ji4))from ge489_0);clear hv489_0 ge489_0;clear hcc489 hce489;have HR489_0:=am hi489_0;have HC489_0:=am hl489_0;clear hi489_0 hl489_0;replace p489:=eq_true p489;replace q489:=eq_true q489)|((with_reducible refine gc_ 97 rfl ?_);refine goesL_ (some 19) rfl rfl Tryz.func97 Z19 rfl #[.slice A489_0 (rd_L5 t485 (ji4)).length c489_0] rfl (by(try simp only[List.map_toArray,List.map_cons,List.map_nil]);first|done|(simp only[hji4];rfl)|rfl|(simp only[List.length_drop,List.length_take];rfl)) ?_;refine(valuesB_calls _ _ _ _).mono ?_;rintro e w9_ ⟨rfl,rfl⟩;refine⟨_,rfl,?_⟩)|((with_reducible refine gc_ 96 rfl ?_);refine goesL_ (some 20) rfl rfl Tryz.func96 Z19 rfl #[.func (.func 117) #[] #[.pointer (some ⟨w8.heap.size,0,none⟩)]] rfl (by(try simp only[List.map_toArray,List.map_cons,List.map_nil]);first|done|(simp only[hji4];rfl)|rfl|(simp only[List.length_drop,List.length_take];rfl)) ?_;(with_reducible refine(slices_Sorted_int.calls _ _ (rd_L5 t485 (ji4)) t490 w8 ?side1 ?side2 A7.1).mono ?_);(case side1=>exact(Z58 HR489_0));(case side2=>exact HC489_0.1);rintro e w10 ⟨v491,rfl,ho0,hb⟩;refine⟨_,rfl,?_⟩;replace HOoa:=am (Kd.S_elder' (Z12 HOoa) (Kd.R_base ho0) hb);have HOob:=am (Kd.R_lower (Kd.R_new' ho0 (Kd.R_lt (Z1 HL489_0))) zs_);replace HL489_0:=am (Kd.R_elder' (Z1 HL489_0) (Kd.R_base ho0) hb);replace HR489_0:=am (Kd.C_below (Z9 HR489_0) hb);replace HB:=bw_ hb;clear hb;(try clear ho0)))
 go_ret2
 exact⟨_,(by first|rfl|(simp[errW_none,errW_some]<;>rfl)|(simp only[←hji4];first|rfl|(simp[errW_none,errW_some]<;>rfl))|(simp[*,errW_none,errW_some]<;>rfl)),(Z20 HOob),ZB⟩
end
end Go.Proofs.YtmpofeilljmmiaaGreatDoor.P
