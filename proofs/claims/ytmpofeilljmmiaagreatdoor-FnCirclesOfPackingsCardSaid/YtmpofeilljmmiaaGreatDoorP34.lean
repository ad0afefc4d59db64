/- Lean functions with the answers of Go functions that the statement reaches, and the proofs that the calls come to them; conditions: none but the arguments' kinds. -/
import Derived.Test.YtmpofeilljmmiaaGreatDoorP0
import Derived.Test.YtmpofeilljmmiaaGreatDoorP22
import Derived.Test.YtmpofeilljmmiaaGreatDoorP7
import Derived.Test.YtmpofeilljmmiaaGreatDoorP27
namespace Go.Proofs.YtmpofeilljmmiaaGreatDoor.P
open Go.RowKit Go.Proofs.YtmpofeilljmmiaaGreatDoorW.PrintWords Go.Proofs.YtmpofeilljmmiaaGreatDoorW.PrintLast Go.Proofs.YtmpofeilljmmiaaGreatDoorW.PrintMore
attribute [local go_sem] max2_int min2_int max_two min_two max_three min_three max_four min_four
set_option linter.unusedVariables false
set_option linter.unusedSimpArgs false
def laws_dSame.l0:Nat→List Int→List Int→Int→Int→Option (Bool)
  |0,_,_,_,_=>none
  |k+1,x0,x1,x12,x13=>if x13<x12 then(if 0≤x13 then(if x13<(x0.length:Int)then(if x13<(x1.length:Int)then(if(rd x0 x13)=(rd x1 x13)then(laws_dSame.l0 k x0 x1 x12 (wrap64 (x13+1)))else(some false))else(none))else(none))else(none))else(some true)
def laws_dSame.f (k:Nat) (l0:List Int) (l1:List Int):Option (Bool):=if(l0.length:Int)=(l1.length:Int)then(laws_dSame.l0 k l0 l1 (l0.length:Int) 0)else(some false)
theorem laws_dSame.mono_l:∀k,(∀y0 y1 y2 y3,LeO (laws_dSame.l0 k y0 y1 y2 y3) (laws_dSame.l0 (k+1) y0 y1 y2 y3))
  |0=>fun _ _ _ _ r h=>by simp[laws_dSame.l0]at h
  |k+1=>by
    have ih0:=laws_dSame.mono_l k
    · intro y0 y1 y2 y3
      unfold laws_dSame.l0
      exact mo_
theorem laws_dSame.mono:∀a0 a1 k,LeO (laws_dSame.f k a0 a1) (laws_dSame.f (k+1) a0 a1):=by
  intro a0 a1 k
  have ih0:=laws_dSame.mono_l k
  unfold laws_dSame.f
  exact mo_
set_option maxHeartbeats 8000000 in
set_option maxRecDepth 100000 in
theorem laws_dSame.calls (k:Nat) (A0:Option Addr) (c0:Nat) (l0:List Int) (A1:Option Addr) (c1:Nat) (l1:List Int) (r:Bool) (w:World) (hr0:Kd.C (Kd.int .i64) w A0 l0.length l0) (hc0:l0.length≤c0) (hr1:Kd.C (Kd.int .i64) w A1 l1.length l1) (hc1:l1.length≤c1) (h:laws_dSame.f k l0 l1=some r):
  Calls Tryz.prog 59 #[.slice A0 l0.length c0,.slice A1 l1.length c1] w fun e w'=>e= .returned (.bool r)∧Drawn0 w w':=by
 have HR0:=am hr0
 have HC0:=am hc0
 clear hr0 hc0
 have HR1:=am hr1
 have HC1:=am hc1
 clear hr1 hc1
 have H:=h
 clear h
 unfold laws_dSame.f at H
 by_cases c3:(l0.length:Int)=(l1.length:Int)
 rotate_left
 ·
  rw[if_neg c3]at H
  obtain⟨c3b0,c3b1⟩:=ne2_ c3
  have c3b2:(l0.length==l1.length)=false:=by first|simpa using c3|(simp at c3 ⊢;omega)
  obtain rfl:=Option.some.inj H
  go_enter Tryz.func59,Tryz.ntmps59
  go_wp2
  repeat(go_quiet (fail);try go_wp2)
  go_ret
  exact⟨Z7,Z16⟩
 rw[if_pos c3]at H
 obtain⟨c3b0,c3b1⟩:=eq2_ c3
 have c3b2:(l0.length==l1.length)=true:=by first|simpa using c3|(simp at c3 ⊢;omega)
 clear c3
 have H':=am H
 clear H
 go_enter Tryz.func59,Tryz.ntmps59
 go_wp2
 repeat(go_quiet (fail);try go_wp2)
 go_loopg [13] k (fun kq v13 w'=>∃(x13_1:Int),v13= .int .i64 x13_1∧Aside0 (laws_dSame.l0 kq l0 l1 (l0.length:Int) x13_1=some r)∧Aside0 (kq≤k)∧Drawn0 w w')
 case atStart=>exact⟨(0),Z7,H',⟨Nat.le_refl _⟩,Z16⟩
 clear H'
 obtain⟨x13_1,rfl,HA,HK1,⟨m1,rfl⟩⟩:=hrel
 obtain _|k1:=gk
 ·
  exact absurd HA.out (by simp[laws_dSame.l0])
 have H:=HA.out
 clear HA
 simp only[laws_dSame.l0]at H
 by_cases c4:x13_1<(l0.length:Int)
 rotate_left
 ·
  rw[if_neg c4]at H
  have c4b0:=decide_eq_false c4
  clear c4
  obtain rfl:=Option.some.inj H
  go_wp2
  repeat(go_quiet (fail);try go_wp2)
  go_ret
  exact⟨Z7,Z16⟩
 rw[if_pos c4]at H
 have c4b0:=decide_eq_true c4
 clear c4
 obtain⟨c5,H⟩:=ip_ H
 have c5b0:=decide_eq_true c5
 clear c5
 obtain⟨c6,H⟩:=ip_ H
 have c6b0:=decide_eq_true c6
 clear c6
 obtain⟨c7,H⟩:=ip_ H
 have c7b0:=decide_eq_true c7
 clear c7
 by_cases c8:(rd l0 x13_1)=(rd l1 x13_1)
 ·
  rw[if_pos c8]at H
  obtain⟨c8b0,c8b1⟩:=eq2_ c8
  clear c8
  have H':=am H
  clear H
  have p594:0≤(x13_1:Int):=of_decide_eq_true Z5
  have q594:x13_1<(l0.length:Int):=of_decide_eq_true Z5
  obtain⟨ad594,e594,hx594_0⟩:=Kd.at_int HR0.1 x13_1 p594 q594
  cases e594
  replace p594:=eq_true p594
  replace q594:=eq_true q594
  have p595:0≤(x13_1:Int):=of_decide_eq_true Z5
  have q595:x13_1<(l1.length:Int):=of_decide_eq_true Z5
  obtain⟨ad595,e595,hx595_0⟩:=Kd.at_int HR1.1 x13_1 p595 q595
  cases e595
  replace p595:=eq_true p595
  replace q595:=eq_true q595
  go_wp2
  repeat(go_quiet (fail);try go_wp2)
  go_roundg k1
  case measure=>have:=HK1.1;omega
  exact⟨(wrap64 (x13_1+1)),Z7,H',⟨Z34⟩,Z16⟩
 rw[if_neg c8]at H
 obtain⟨c8b0,c8b1⟩:=ne2_ c8
 obtain rfl:=Option.some.inj H
 have p594:0≤(x13_1:Int):=of_decide_eq_true Z5
 have q594:x13_1<(l0.length:Int):=of_decide_eq_true Z5
 obtain⟨ad594,e594,hx594_0⟩:=Kd.at_int HR0.1 x13_1 p594 q594
 cases e594
 replace p594:=eq_true p594
 replace q594:=eq_true q594
 have p595:0≤(x13_1:Int):=of_decide_eq_true Z5
 have q595:x13_1<(l1.length:Int):=of_decide_eq_true Z5
 obtain⟨ad595,e595,hx595_0⟩:=Kd.at_int HR1.1 x13_1 p595 q595
 cases e595
 replace p595:=eq_true p595
 replace q595:=eq_true q595
 go_wp2
 repeat(go_quiet (fail);try go_wp2)
 go_ret
 exact⟨Z7,Z16⟩
def laws_dLists.l0:Nat→List (List Int)→List (List Int)→Int→Int→Option (Bool)
  |0,_,_,_,_=>none
  |k+1,x0,x1,x12,x13=>if x13<x12 then(if 0≤x13 then(if x13<(x0.length:Int)then(if x13<(x1.length:Int)then((laws_dSame.f k (rd_L5 x0 x13) (rd_L5 x1 x13)).bind fun t598=>(if t598=true then(laws_dLists.l0 k x0 x1 x12 (wrap64 (x13+1)))else(some false)))else(none))else(none))else(none))else(some true)
def laws_dLists.f (k:Nat) (l0:List (List Int)) (l1:List (List Int)):Option (Bool):=if(l0.length:Int)=(l1.length:Int)then(laws_dLists.l0 k l0 l1 (l0.length:Int) 0)else(some false)
theorem laws_dLists.mono_l:∀k,(∀y0 y1 y2 y3,LeO (laws_dLists.l0 k y0 y1 y2 y3) (laws_dLists.l0 (k+1) y0 y1 y2 y3))
  |0=>fun _ _ _ _ r h=>by simp[laws_dLists.l0]at h
  |k+1=>by
    have ih0:=laws_dLists.mono_l k
    · intro y0 y1 y2 y3
      unfold laws_dLists.l0
      exact mo_
theorem laws_dLists.mono:∀a0 a1 k,LeO (laws_dLists.f k a0 a1) (laws_dLists.f (k+1) a0 a1):=by
  intro a0 a1 k
  have ih0:=laws_dLists.mono_l k
  unfold laws_dLists.f
  exact mo_
set_option maxHeartbeats 8000000 in
set_option maxRecDepth 100000 in
theorem laws_dLists.calls (k:Nat) (A0:Option Addr) (c0:Nat) (l0:List (List Int)) (A1:Option Addr) (c1:Nat) (l1:List (List Int)) (r:Bool) (w:World) (hr0:Kd.C (Kd.slice 3 (Kd.int .i64)) w A0 l0.length l0) (hc0:l0.length≤c0) (hr1:Kd.C (Kd.slice 3 (Kd.int .i64)) w A1 l1.length l1) (hc1:l1.length≤c1) (h:laws_dLists.f k l0 l1=some r):
  Calls Tryz.prog 18 #[.slice A0 l0.length c0,.slice A1 l1.length c1] w fun e w'=>e= .returned (.bool r)∧Drawn0 w w':=by
 have HR0:=am hr0
 have HC0:=am hc0
 clear hr0 hc0
 have HR1:=am hr1
 have HC1:=am hc1
 clear hr1 hc1
 have H:=h
 clear h
 unfold laws_dLists.f at H
 by_cases c3:(l0.length:Int)=(l1.length:Int)
 rotate_left
 ·
  rw[if_neg c3]at H
  obtain⟨c3b0,c3b1⟩:=ne2_ c3
  have c3b2:(l0.length==l1.length)=false:=by first|simpa using c3|(simp at c3 ⊢;omega)
  obtain rfl:=Option.some.inj H
  go_enter Tryz.func18,Tryz.ntmps18
  go_wp2
  repeat(go_quiet (fail);try go_wp2)
  go_ret
  exact⟨Z7,Z16⟩
 rw[if_pos c3]at H
 obtain⟨c3b0,c3b1⟩:=eq2_ c3
 have c3b2:(l0.length==l1.length)=true:=by first|simpa using c3|(simp at c3 ⊢;omega)
 clear c3
 have H':=am H
 clear H
 go_enter Tryz.func18,Tryz.ntmps18
 go_wp2
 repeat(go_quiet (fail);try go_wp2)
 go_loopg [13] k (fun kq v13 w'=>∃(x13_1:Int),v13= .int .i64 x13_1∧Aside0 (laws_dLists.l0 kq l0 l1 (l0.length:Int) x13_1=some r)∧Aside0 (kq≤k)∧Drawn0 w w')
 case atStart=>exact⟨(0),Z7,H',⟨Nat.le_refl _⟩,Z16⟩
 clear H'
 obtain⟨x13_1,rfl,HA,HK1,⟨m1,rfl⟩⟩:=hrel
 obtain _|k1:=gk
 ·
  exact absurd HA.out (by simp[laws_dLists.l0])
 have H:=HA.out
 clear HA
 simp only[laws_dLists.l0]at H
 by_cases c4:x13_1<(l0.length:Int)
 rotate_left
 ·
  rw[if_neg c4]at H
  have c4b0:=decide_eq_false c4
  clear c4
  obtain rfl:=Option.some.inj H
  go_wp2
  repeat(go_quiet (fail);try go_wp2)
  go_ret
  exact⟨Z7,Z16⟩
 rw[if_pos c4]at H
 have c4b0:=decide_eq_true c4
 clear c4
 obtain⟨c5,H⟩:=ip_ H
 have c5b0:=decide_eq_true c5
 clear c5
 obtain⟨c6,H⟩:=ip_ H
 have c6b0:=decide_eq_true c6
 clear c6
 obtain⟨c7,H⟩:=ip_ H
 have c7b0:=decide_eq_true c7
 clear c7
 obtain⟨t598,A8,H⟩:=bs_ H
 try dsimp only at H
 by_cases c9:t598=true
 ·
  subst c9
  rw[if_pos rfl]at H
  have H':=am H
  clear H
  have p596:0≤(x13_1:Int):=of_decide_eq_true Z5
  have q596:x13_1<(l0.length:Int):=of_decide_eq_true Z5
  obtain⟨ad596,A596_0,c596_0,e596,hx596_0,hl596_0,hi596_0⟩:=at_L5 HR0.1 x13_1 p596 q596
  cases e596
  have HR596_0:=am hi596_0
  have HC596_0:=am hl596_0
  clear hi596_0 hl596_0
  replace p596:=eq_true p596
  replace q596:=eq_true q596
  have p597:0≤(x13_1:Int):=of_decide_eq_true Z5
  have q597:x13_1<(l1.length:Int):=of_decide_eq_true Z5
  obtain⟨ad597,A597_0,c597_0,e597,hx597_0,hl597_0,hi597_0⟩:=at_L5 HR1.1 x13_1 p597 q597
  cases e597
  have HR597_0:=am hi597_0
  have HC597_0:=am hl597_0
  clear hi597_0 hl597_0
  replace p597:=eq_true p597
  replace q597:=eq_true q597
  go_wp2_with (first|(go_at_call 59;(with_reducible refine(laws_dSame.calls k1 _ _ (rd_L5 l0 x13_1) _ _ (rd_L5 l1 x13_1) true _ ?side1 ?side2 ?side3 ?side4 A8.1).mono ?_);(case side1=>exact(Z11 HR596_0));(case side2=>exact HC596_0.1);(case side3=>exact(Z11 HR597_0));(case side4=>exact HC597_0.1);rintro e w' ⟨rfl,⟨nd,rfl⟩⟩;(try first|exact⟨rfl,_,World.drewN_drewN _ _ _⟩|exact⟨rfl,_,Eq.trans (World.drewN_drewN _ _ _) (congrArg (World.drewN _) (Nat.add_assoc _ _ _))⟩)))
  repeat(go_quiet (first|(go_at_call 59;(with_reducible refine(laws_dSame.calls k1 _ _ (rd_L5 l0 x13_1) _ _ (rd_L5 l1 x13_1) true _ ?side1 ?side2 ?side3 ?side4 A8.1).mono ?_);(case side1=>exact(Z11 HR596_0));(case side2=>exact HC596_0.1);(case side3=>exact(Z11 HR597_0));(case side4=>exact HC597_0.1);rintro e w' ⟨rfl,⟨nd,rfl⟩⟩;(try first|exact⟨rfl,_,World.drewN_drewN _ _ _⟩|exact⟨rfl,_,Eq.trans (World.drewN_drewN _ _ _) (congrArg (World.drewN _) (Nat.add_assoc _ _ _))⟩)));try go_wp2_with (first|(go_at_call 59;(with_reducible refine(laws_dSame.calls k1 _ _ (rd_L5 l0 x13_1) _ _ (rd_L5 l1 x13_1) true _ ?side1 ?side2 ?side3 ?side4 A8.1).mono ?_);(case side1=>exact(Z11 HR596_0));(case side2=>exact HC596_0.1);(case side3=>exact(Z11 HR597_0));(case side4=>exact HC597_0.1);rintro e w' ⟨rfl,⟨nd,rfl⟩⟩;(try first|exact⟨rfl,_,World.drewN_drewN _ _ _⟩|exact⟨rfl,_,Eq.trans (World.drewN_drewN _ _ _) (congrArg (World.drewN _) (Nat.add_assoc _ _ _))⟩))))
  go_roundg k1
  case measure=>have:=HK1.1;omega
  exact⟨(wrap64 (x13_1+1)),Z7,H',⟨Z34⟩,Z16⟩
 replace c9:=Bool.eq_false_iff.mpr c9
 subst c9
 rw[if_neg (show¬(false=true) by decide)]at H
 obtain rfl:=Option.some.inj H
 have p596:0≤(x13_1:Int):=of_decide_eq_true Z5
 have q596:x13_1<(l0.length:Int):=of_decide_eq_true Z5
 obtain⟨ad596,A596_0,c596_0,e596,hx596_0,hl596_0,hi596_0⟩:=at_L5 HR0.1 x13_1 p596 q596
 cases e596
 have HR596_0:=am hi596_0
 have HC596_0:=am hl596_0
 clear hi596_0 hl596_0
 replace p596:=eq_true p596
 replace q596:=eq_true q596
 have p597:0≤(x13_1:Int):=of_decide_eq_true Z5
 have q597:x13_1<(l1.length:Int):=of_decide_eq_true Z5
 obtain⟨ad597,A597_0,c597_0,e597,hx597_0,hl597_0,hi597_0⟩:=at_L5 HR1.1 x13_1 p597 q597
 cases e597
 have HR597_0:=am hi597_0
 have HC597_0:=am hl597_0
 clear hi597_0 hl597_0
 replace p597:=eq_true p597
 replace q597:=eq_true q597
 go_wp2_with (first|(go_at_call 59;(with_reducible refine(laws_dSame.calls k1 _ _ (rd_L5 l0 x13_1) _ _ (rd_L5 l1 x13_1) false _ ?side1 ?side2 ?side3 ?side4 A8.1).mono ?_);(case side1=>exact(Z11 HR596_0));(case side2=>exact HC596_0.1);(case side3=>exact(Z11 HR597_0));(case side4=>exact HC597_0.1);rintro e w' ⟨rfl,⟨nd,rfl⟩⟩;(try first|exact⟨rfl,_,World.drewN_drewN _ _ _⟩|exact⟨rfl,_,Eq.trans (World.drewN_drewN _ _ _) (congrArg (World.drewN _) (Nat.add_assoc _ _ _))⟩)))
 repeat(go_quiet (first|(go_at_call 59;(with_reducible refine(laws_dSame.calls k1 _ _ (rd_L5 l0 x13_1) _ _ (rd_L5 l1 x13_1) false _ ?side1 ?side2 ?side3 ?side4 A8.1).mono ?_);(case side1=>exact(Z11 HR596_0));(case side2=>exact HC596_0.1);(case side3=>exact(Z11 HR597_0));(case side4=>exact HC597_0.1);rintro e w' ⟨rfl,⟨nd,rfl⟩⟩;(try first|exact⟨rfl,_,World.drewN_drewN _ _ _⟩|exact⟨rfl,_,Eq.trans (World.drewN_drewN _ _ _) (congrArg (World.drewN _) (Nat.add_assoc _ _ _))⟩)));try go_wp2_with (first|(go_at_call 59;(with_reducible refine(laws_dSame.calls k1 _ _ (rd_L5 l0 x13_1) _ _ (rd_L5 l1 x13_1) false _ ?side1 ?side2 ?side3 ?side4 A8.1).mono ?_);(case side1=>exact(Z11 HR596_0));(case side2=>exact HC596_0.1);(case side3=>exact(Z11 HR597_0));(case side4=>exact HC597_0.1);rintro e w' ⟨rfl,⟨nd,rfl⟩⟩;(try first|exact⟨rfl,_,World.drewN_drewN _ _ _⟩|exact⟨rfl,_,Eq.trans (World.drewN_drewN _ _ _) (congrArg (World.drewN _) (Nat.add_assoc _ _ _))⟩))))
 go_ret
 exact⟨Z7,Z16⟩
def impl_DoTouch.f (a0_0:Int) (a0_1:Int) (a0_2:Int) (a0_3:Int) (a1_0:Int) (a1_1:Int) (a1_2:Int) (a1_3:Int):Option (Bool × Bool):=(impl_areCircles.f (([(⟨a0_0,a0_1,a0_2,a0_3⟩:S37),(⟨a1_0,a1_1,a1_2,a1_3⟩:S37)]:List (S37)))).bind fun t604=>(if t604=true then((impl_twice.f a0_0 a0_1 a0_2 a0_3 a1_0 a1_1 a1_2 a1_3).bind fun t605=>(some ((t605==(-2)),true)))else(some (false,false)))
set_option maxHeartbeats 8000000 in
set_option maxRecDepth 100000 in
theorem impl_DoTouch.calls (a0_0:Int) (a0_1:Int) (a0_2:Int) (a0_3:Int) (a1_0:Int) (a1_1:Int) (a1_2:Int) (a1_3:Int) (r1:Bool) (r2:Bool) (w:World) (h:impl_DoTouch.f a0_0 a0_1 a0_2 a0_3 a1_0 a1_1 a1_2 a1_3=some (r1,r2)):
  Calls Tryz.prog 19 #[.agg #[.int .i64 a0_0,.int .i64 a0_1,.int .i64 a0_2,.int .i64 a0_3],.agg #[.int .i64 a1_0,.int .i64 a1_1,.int .i64 a1_2,.int .i64 a1_3]] w fun e w'=>e= .returned (.tuple #[.bool r1,.bool r2])∧Below w.heap.size w w':=by
 have hu37:=Tryz.underlying37
 have HB:=am (Below.refl w.heap.size w)
 have H:=h
 clear h
 unfold impl_DoTouch.f at H
 obtain⟨y_a,hy_a⟩:∃y_:List (S37),y_=(([(⟨a0_0,a0_1,a0_2,a0_3⟩:S37),(⟨a1_0,a1_1,a1_2,a1_3⟩:S37)]:List (S37))):=⟨_,rfl⟩
 replace H:((impl_areCircles.f y_a).bind fun t604=>(if t604=true then((impl_twice.f a0_0 a0_1 a0_2 a0_3 a1_0 a1_1 a1_2 a1_3).bind fun t605=>(some ((t605==(-2)),true)))else(some (false,false))))=some (r1,r2):=Z8
 have Ny_a:=am hy_a
 clear hy_a
 obtain⟨t604,A3,H⟩:=bs_ H
 try dsimp only at H
 by_cases c4:t604=true
 rotate_left
 ·
  replace c4:=Bool.eq_false_iff.mpr c4
  subst c4
  rw[if_neg (show¬(false=true) by decide)]at H
  simp only[Option.some.injEq,Prod.mk.injEq]at H
  obtain⟨rfl,rfl⟩:=H
  go_enter Tryz.func19,Tryz.ntmps19
  go_wp2_with (first|((with_reducible refine gd_ 2 rfl ?_);refine boxN_ 2 #[.int .i64 a0_0,.int .i64 a0_1,.int .i64 a0_2,.int .i64 a0_3] 37 ?_;intro gboa hg w18 hbox hb;have BKoa:=am hbox;have GWoa:=gG_ hg;have GEoa:=gG_ hg;replace HB:=bw_ hb;clear hb hbox hg)|((with_reducible refine gd_ 3 rfl ?_);refine boxN_ 3 #[.int .i64 a1_0,.int .i64 a1_1,.int .i64 a1_2,.int .i64 a1_3] 37 ?_;intro gbob hg w19 hbox hb;have BKob:=am hbox;have GWob:=gG_ hg;have GEob:=gG_ hg;replace HB:=bw_ hb;have NBoa_ob:=nl_ BKoa hg;have NBob_oa:=ng_ BKoa hg;replace BKoa:=bk_ BKoa hb;clear hb hbox hg;have hnb20:=NBoa_ob.1;have hnc20:=NBob_oa.1;obtain⟨_,_,_,_,_,_,_,_⟩:=cz4_ BKoa;obtain⟨_,_,_,_,_,_,_,_⟩:=cz4_ BKob)|((with_reducible refine gd_ 8 rfl ?_);refine Kd.R_lit k37 _ 37 ?hg (N:=8) ?hd (xs:=([(⟨a0_0,a0_1,a0_2,a0_3⟩:S37),(⟨a1_0,a1_1,a1_2,a1_3⟩:S37)]:List (S37))) (inner:=[.int .i64 a0_0,.int .i64 a0_1,.int .i64 a0_2,.int .i64 a0_3,.int .i64 a1_0,.int .i64 a1_1,.int .i64 a1_2,.int .i64 a1_3]) (ok:=fun _=>True) (okp:=fun _=>True) ?hr ?hp (fun _ hk=>hk) trivial (Below.refl _ _) (Nat.le_refl _) (by simp) ?_;(case hd=>rfl);(case hg=>rfl);(case hr=>first|(go_simp;done)|(go_simp;rfl));(case hp=>exact(Reps.c4 (show Kd.M k37 _ _ _ (⟨a0_0,a0_1,a0_2,a0_3⟩:S37) [.int .i64 a0_0,.int .i64 a0_1,.int .i64 a0_2,.int .i64 a0_3]from(k37_mkM _ _ _ (⟨a0_0,a0_1,a0_2,a0_3⟩:S37))) (Reps.c4 (show Kd.M k37 _ _ _ (⟨a1_0,a1_1,a1_2,a1_3⟩:S37) [.int .i64 a1_0,.int .i64 a1_1,.int .i64 a1_2,.int .i64 a1_3]from(k37_mkM _ _ _ (⟨a1_0,a1_1,a1_2,a1_3⟩:S37))) (Reps.none _ _))));intro v602 w23 ho24 hb hg_ hnew_;clear hg_ hnew_;(first|rw[←Ny_a.1]at ho24|(simp only[Int.reduceToNat]at ho24;rw[←Ny_a.1]at ho24));have HOoc:=am (Kd.R_lower (Kd.R_newB (Kd.R_newB ho24 (bb_ BKoa)) (bb_ BKob)) zs_);replace BKoa:=bk_ BKoa hb;replace BKob:=bk_ BKob hb;replace HB:=bw_ hb;clear hb ho24;obtain⟨Ao25,co25,eo25⟩:=Kd.R_slice HOoc.1;subst eo25)|((with_reducible refine gc_ 53 rfl ?_);refine gM_ (some 9) Tryz.func53 (impl_areCircles.calls _ _ y_a false _ ?side1 ?side2 A3.1) ?_;(case side1=>exact(Z10 HOoc));(case side2=>exact(Kd.R_reads' HOoc.1).2.1);intro w26 hb;replace HOoc:=am (Kd.R_below (Z1 HOoc) hb);replace BKoa:=bk_ BKoa hb;replace BKob:=bk_ BKob hb;replace HB:=bw_ hb;clear hb))
  go_ret2
  exact⟨Z6,ZB⟩
 subst c4
 rw[if_pos rfl]at H
 obtain⟨t605,A5,H⟩:=bs_ H
 try dsimp only at H
 simp only[Option.some.injEq,Prod.mk.injEq]at H
 obtain⟨rfl,rfl⟩:=H
 go_enter Tryz.func19,Tryz.ntmps19
 go_wp2_with (first|((with_reducible refine gd_ 2 rfl ?_);refine boxN_ 2 #[.int .i64 a0_0,.int .i64 a0_1,.int .i64 a0_2,.int .i64 a0_3] 37 ?_;intro gboa hg w6 hbox hb;have BKoa:=am hbox;have GWoa:=gG_ hg;have GEoa:=gG_ hg;replace HB:=bw_ hb;clear hb hbox hg)|((with_reducible refine gd_ 3 rfl ?_);refine boxN_ 3 #[.int .i64 a1_0,.int .i64 a1_1,.int .i64 a1_2,.int .i64 a1_3] 37 ?_;intro gbob hg w7 hbox hb;have BKob:=am hbox;have GWob:=gG_ hg;have GEob:=gG_ hg;replace HB:=bw_ hb;have NBoa_ob:=nl_ BKoa hg;have NBob_oa:=ng_ BKoa hg;replace BKoa:=bk_ BKoa hb;clear hb hbox hg;have hnb8:=NBoa_ob.1;have hnc8:=NBob_oa.1;obtain⟨_,_,_,_,_,_,_,_⟩:=cz4_ BKoa;obtain⟨_,_,_,_,_,_,_,_⟩:=cz4_ BKob)|((with_reducible refine gd_ 8 rfl ?_);refine Kd.R_lit k37 _ 37 ?hg (N:=8) ?hd (xs:=([(⟨a0_0,a0_1,a0_2,a0_3⟩:S37),(⟨a1_0,a1_1,a1_2,a1_3⟩:S37)]:List (S37))) (inner:=[.int .i64 a0_0,.int .i64 a0_1,.int .i64 a0_2,.int .i64 a0_3,.int .i64 a1_0,.int .i64 a1_1,.int .i64 a1_2,.int .i64 a1_3]) (ok:=fun _=>True) (okp:=fun _=>True) ?hr ?hp (fun _ hk=>hk) trivial (Below.refl _ _) (Nat.le_refl _) (by simp) ?_;(case hd=>rfl);(case hg=>rfl);(case hr=>first|(go_simp;done)|(go_simp;rfl));(case hp=>exact(Reps.c4 (show Kd.M k37 _ _ _ (⟨a0_0,a0_1,a0_2,a0_3⟩:S37) [.int .i64 a0_0,.int .i64 a0_1,.int .i64 a0_2,.int .i64 a0_3]from(k37_mkM _ _ _ (⟨a0_0,a0_1,a0_2,a0_3⟩:S37))) (Reps.c4 (show Kd.M k37 _ _ _ (⟨a1_0,a1_1,a1_2,a1_3⟩:S37) [.int .i64 a1_0,.int .i64 a1_1,.int .i64 a1_2,.int .i64 a1_3]from(k37_mkM _ _ _ (⟨a1_0,a1_1,a1_2,a1_3⟩:S37))) (Reps.none _ _))));intro v602 w11 ho12 hb hg_ hnew_;clear hg_ hnew_;(first|rw[←Ny_a.1]at ho12|(simp only[Int.reduceToNat]at ho12;rw[←Ny_a.1]at ho12));have HOoc:=am (Kd.R_lower (Kd.R_newB (Kd.R_newB ho12 (bb_ BKoa)) (bb_ BKob)) zs_);replace BKoa:=bk_ BKoa hb;replace BKob:=bk_ BKob hb;replace HB:=bw_ hb;clear hb ho12;obtain⟨Ao13,co13,eo13⟩:=Kd.R_slice HOoc.1;subst eo13)|((with_reducible refine gc_ 53 rfl ?_);refine gM_ (some 9) Tryz.func53 (impl_areCircles.calls _ _ y_a true _ ?side1 ?side2 A3.1) ?_;(case side1=>exact(Z10 HOoc));(case side2=>exact(Kd.R_reads' HOoc.1).2.1);intro w14 hb;replace HOoc:=am (Kd.R_below (Z1 HOoc) hb);replace BKoa:=bk_ BKoa hb;replace BKob:=bk_ BKob hb;replace HB:=bw_ hb;clear hb;obtain⟨_,_,_,_,_,_,_,_⟩:=cz4_ BKoa;obtain⟨_,_,_,_,_,_,_,_⟩:=cz4_ BKob)|((with_reducible refine gc_ 54 rfl ?_);refine gM_ (some 13) Tryz.func54 (impl_twice.calls a0_0 a0_1 a0_2 a0_3 a1_0 a1_1 a1_2 a1_3 t605 _ A5.1) ?_;intro w17 hb;replace HOoc:=am (Kd.R_below (Z1 HOoc) hb);replace BKoa:=bk_ BKoa hb;replace BKob:=bk_ BKob hb;replace HB:=bw_ hb;clear hb))
 go_ret2
 exact⟨Z6,ZB⟩
def laws_dLess.l0:Nat→List Int→List Int→Int→Int→Option (Bool)
  |0,_,_,_,_=>none
  |k+1,x0,x1,x7,x8=>if x8<x7 then(if 0≤x8 then(if x8<(x0.length:Int)then(if x8<(x1.length:Int)then(if(rd x0 x8)=(rd x1 x8)then(laws_dLess.l0 k x0 x1 x7 (wrap64 (x8+1)))else(some (decide ((rd x0 x8)<(rd x1 x8)))))else(none))else(none))else(none))else(some false)
def laws_dLess.f (k:Nat) (l0:List Int) (l1:List Int):Option (Bool):=laws_dLess.l0 k l0 l1 (l0.length:Int) 0
theorem laws_dLess.mono_l:∀k,(∀y0 y1 y2 y3,LeO (laws_dLess.l0 k y0 y1 y2 y3) (laws_dLess.l0 (k+1) y0 y1 y2 y3))
  |0=>fun _ _ _ _ r h=>by simp[laws_dLess.l0]at h
  |k+1=>by
    have ih0:=laws_dLess.mono_l k
    · intro y0 y1 y2 y3
      unfold laws_dLess.l0
      exact mo_
theorem laws_dLess.mono:∀a0 a1 k,LeO (laws_dLess.f k a0 a1) (laws_dLess.f (k+1) a0 a1):=by
  intro a0 a1 k
  have ih0:=laws_dLess.mono_l k
  unfold laws_dLess.f
  exact mo_
set_option maxHeartbeats 8000000 in
set_option maxRecDepth 100000 in
theorem laws_dLess.calls (k:Nat) (A0:Option Addr) (c0:Nat) (l0:List Int) (A1:Option Addr) (c1:Nat) (l1:List Int) (r:Bool) (w:World) (hr0:Kd.C (Kd.int .i64) w A0 l0.length l0) (hc0:l0.length≤c0) (hr1:Kd.C (Kd.int .i64) w A1 l1.length l1) (hc1:l1.length≤c1) (h:laws_dLess.f k l0 l1=some r):
  Calls Tryz.prog 20 #[.slice A0 l0.length c0,.slice A1 l1.length c1] w fun e w'=>e= .returned (.bool r)∧Drawn0 w w':=by
 have HR0:=am hr0
 have HC0:=am hc0
 clear hr0 hc0
 have HR1:=am hr1
 have HC1:=am hc1
 clear hr1 hc1
 have H:(laws_dLess.l0 k l0 l1 (l0.length:Int) 0)=some r:=h
 clear h
 have H':=am H
 clear H
 go_enter Tryz.func20,Tryz.ntmps20
 go_wp2
 repeat(go_quiet (fail);try go_wp2)
 go_loopg [8] k (fun kq v8 w'=>∃(x8_1:Int),v8= .int .i64 x8_1∧Aside0 (laws_dLess.l0 kq l0 l1 (l0.length:Int) x8_1=some r)∧Aside0 (kq≤k)∧Drawn0 w w')
 case atStart=>exact⟨(0),Z7,H',⟨Nat.le_refl _⟩,Z16⟩
 clear H'
 obtain⟨x8_1,rfl,HA,HK1,⟨m1,rfl⟩⟩:=hrel
 obtain _|k1:=gk
 ·
  exact absurd HA.out (by simp[laws_dLess.l0])
 have H:=HA.out
 clear HA
 simp only[laws_dLess.l0]at H
 by_cases c3:x8_1<(l0.length:Int)
 rotate_left
 ·
  rw[if_neg c3]at H
  have c3b0:=decide_eq_false c3
  clear c3
  obtain rfl:=Option.some.inj H
  go_wp2
  repeat(go_quiet (fail);try go_wp2)
  go_ret
  exact⟨Z7,Z16⟩
 rw[if_pos c3]at H
 have c3b0:=decide_eq_true c3
 clear c3
 obtain⟨c4,H⟩:=ip_ H
 have c4b0:=decide_eq_true c4
 clear c4
 obtain⟨c5,H⟩:=ip_ H
 have c5b0:=decide_eq_true c5
 clear c5
 obtain⟨c6,H⟩:=ip_ H
 have c6b0:=decide_eq_true c6
 clear c6
 by_cases c7:(rd l0 x8_1)=(rd l1 x8_1)
 ·
  rw[if_pos c7]at H
  obtain⟨c7b0,c7b1⟩:=eq2_ c7
  clear c7
  have H':=am H
  clear H
  have p606:0≤(x8_1:Int):=of_decide_eq_true Z5
  have q606:x8_1<(l0.length:Int):=of_decide_eq_true Z5
  obtain⟨ad606,e606,hx606_0⟩:=Kd.at_int HR0.1 x8_1 p606 q606
  cases e606
  replace p606:=eq_true p606
  replace q606:=eq_true q606
  have p607:0≤(x8_1:Int):=of_decide_eq_true Z5
  have q607:x8_1<(l1.length:Int):=of_decide_eq_true Z5
  obtain⟨ad607,e607,hx607_0⟩:=Kd.at_int HR1.1 x8_1 p607 q607
  cases e607
  replace p607:=eq_true p607
  replace q607:=eq_true q607
  go_wp2
  repeat(go_quiet (fail);try go_wp2)
  go_roundg k1
  case measure=>have:=HK1.1;omega
  exact⟨(wrap64 (x8_1+1)),Z7,H',⟨Z34⟩,Z16⟩
 rw[if_neg c7]at H
 obtain⟨c7b0,c7b1⟩:=ne2_ c7
 obtain rfl:=Option.some.inj H
 have p606:0≤(x8_1:Int):=of_decide_eq_true Z5
 have q606:x8_1<(l0.length:Int):=of_decide_eq_true Z5
 obtain⟨ad606,e606,hx606_0⟩:=Kd.at_int HR0.1 x8_1 p606 q606
 cases e606
 replace p606:=eq_true p606
 replace q606:=eq_true q606
 have p607:0≤(x8_1:Int):=of_decide_eq_true Z5
 have q607:x8_1<(l1.length:Int):=of_decide_eq_true Z5
 obtain⟨ad607,e607,hx607_0⟩:=Kd.at_int HR1.1 x8_1 p607 q607
 cases e607
 replace p607:=eq_true p607
 replace q607:=eq_true q607
 have p608:0≤(x8_1:Int):=of_decide_eq_true Z5
 have q608:x8_1<(l0.length:Int):=of_decide_eq_true Z5
 obtain⟨ad608,e608,hx608_0⟩:=Kd.at_int HR0.1 x8_1 p608 q608
 obtain rfl:ad606=ad608:=(by injection e608)
 replace p608:=eq_true p608
 replace q608:=eq_true q608
 have p609:0≤(x8_1:Int):=of_decide_eq_true Z5
 have q609:x8_1<(l1.length:Int):=of_decide_eq_true Z5
 obtain⟨ad609,e609,hx609_0⟩:=Kd.at_int HR1.1 x8_1 p609 q609
 obtain rfl:ad607=ad609:=(by injection e609)
 replace p609:=eq_true p609
 replace q609:=eq_true q609
 go_wp2
 repeat(go_quiet (fail);try go_wp2)
 go_ret
 exact⟨Z7,Z16⟩
def spec_DrawIsCircle.f (k:Nat) (l0:List Int):Option (Int × Int × Int × Int):=(spec_l1Cur_circle.f k l0 0 0).bind fun bt612=>(some (bt612.1,bt612.2.1,bt612.2.2.1,bt612.2.2.2.1))
theorem spec_DrawIsCircle.mono:∀a0 k,LeO (spec_DrawIsCircle.f k a0) (spec_DrawIsCircle.f (k+1) a0):=by
  intro a0 k
  unfold spec_DrawIsCircle.f
  exact mo_
set_option maxHeartbeats 8000000 in
set_option maxRecDepth 100000 in
theorem spec_DrawIsCircle.calls (k:Nat) (A0:Option Addr) (c0:Nat) (l0:List Int) (r1:Int) (r2:Int) (r3:Int) (r4:Int) (w:World) (hr0:Kd.C (Kd.int .u8) w A0 l0.length l0) (hc0:l0.length≤c0) (h:spec_DrawIsCircle.f k l0=some (r1,r2,r3,r4)):
  Calls Tryz.prog 60 #[.slice A0 l0.length c0] w fun e w'=>e= .returned (.agg #[.int .i64 r1,.int .i64 r2,.int .i64 r3,.int .i64 r4])∧Below w.heap.size w w':=by
 have hu37:=Tryz.underlying37
 have hu58:=Tryz.underlying58
 have HR0:=am hr0
 have HC0:=am hc0
 clear hr0 hc0
 have HB:=am (Below.refl w.heap.size w)
 have H:=h
 clear h
 unfold spec_DrawIsCircle.f at H
 obtain⟨⟨t612,t613,t614,t615,t616,t617⟩,A2,H⟩:=bs_ H
 try dsimp only at H
 simp only[Option.some.injEq,Prod.mk.injEq]at H
 obtain⟨rfl,rfl,rfl,rfl⟩:=H
 go_enter Tryz.func60,Tryz.ntmps60
 go_wp2_with (first|((with_reducible refine gd_ 2 rfl ?_);refine boxN_ 2 #[.int .i64 0,.int .i64 0,.int .i64 0,.int .i64 0] 37 ?_;intro gboa hg w3 hbox hb;have BKoa:=am hbox;have GWoa:=gG_ hg;have GEoa:=gG_ hg;replace HB:=bw_ hb;clear hb hbox hg)|((with_reducible refine gd_ 6 rfl ?_);refine boxN_ 6 #[.slice A0 l0.length c0,.int .i64 0,.int .u64 0] 58 ?_;intro gbob hg w4 hbox hb;have NBoa_ob:=nl_ BKoa hg;have NBob_oa:=ng_ BKoa hg;replace BKoa:=bk_ BKoa hb;have HIob:=am ((show IsS58 w _ gbob l0 0 0 from⟨_,_,hbox,(by rw[hg];exact zs_:w.heap.size≤gbob),HR0.1⟩));replace HB:=bw_ hb;clear hb hbox hg)|((with_reducible refine gc_ 55 rfl ?_);refine gM_ (some 8) Tryz.func55 (spec_l1Cur_circle.calls k gbob l0 0 0 t612 t613 t614 t615 t616 t617 w _ ?side1 ?side2 A2.1) ?_;(case side1=>exact(Z57 HIob));(case side2=>exact ZB);rintro w5 ⟨hi,hb,hk⟩;replace BKoa:=am (KeepBut.blk hk (bb_ BKoa) NBoa_ob.1 (by simp));replace HB:=am hb;replace HIob:=am hi;clear hb hk hi;have hnb6:=NBoa_ob.1;have hnc6:=NBob_oa.1;obtain⟨_,_,_,_,_,_,_,_⟩:=cz4_ BKoa))
 refine bodyPost_ret (results_cell_row rfl _ _ gboa 37 #[.int .i64 t612,.int .i64 t613,.int .i64 t614,.int .i64 t615] (0,0) _ rfl (bb_ BKoa) Tryz.underlying37 rfl Z19) rfl ?_
 exact⟨Z6,ZB⟩
def spec_DrawCircleText.f (k:Nat) (l0:List Int):Option (Int × Int × Int × Int):=(spec_DrawIsCircle.f k l0).bind fun bt619=>(some (bt619.1,bt619.2.1,bt619.2.2.1,bt619.2.2.2))
theorem spec_DrawCircleText.mono:∀a0 k,LeO (spec_DrawCircleText.f k a0) (spec_DrawCircleText.f (k+1) a0):=by
  intro a0 k
  unfold spec_DrawCircleText.f
  exact mo_
set_option maxHeartbeats 8000000 in
set_option maxRecDepth 100000 in
theorem spec_DrawCircleText.calls (k:Nat) (A0:Option Addr) (c0:Nat) (l0:List Int) (r1:Int) (r2:Int) (r3:Int) (r4:Int) (w:World) (hr0:Kd.C (Kd.int .u8) w A0 l0.length l0) (hc0:l0.length≤c0) (h:spec_DrawCircleText.f k l0=some (r1,r2,r3,r4)):
  Calls Tryz.prog 21 #[.slice A0 l0.length c0] w fun e w'=>e= .returned (.agg #[.int .i64 r1,.int .i64 r2,.int .i64 r3,.int .i64 r4])∧Below w.heap.size w w':=by
 have hu37:=Tryz.underlying37
 have HR0:=am hr0
 have HC0:=am hc0
 clear hr0 hc0
 have HB:=am (Below.refl w.heap.size w)
 have H:=h
 clear h
 unfold spec_DrawCircleText.f at H
 obtain⟨⟨t619,t620,t621,t622⟩,A2,H⟩:=bs_ H
 try dsimp only at H
 simp only[Option.some.injEq,Prod.mk.injEq]at H
 obtain⟨rfl,rfl,rfl,rfl⟩:=H
 go_enter Tryz.func21,Tryz.ntmps21
 go_wp2_with (first|((with_reducible refine gd_ 2 rfl ?_);refine boxN_ 2 #[.int .i64 0,.int .i64 0,.int .i64 0,.int .i64 0] 37 ?_;intro gboa hg w3 hbox hb;have BKoa:=am hbox;have GWoa:=gG_ hg;have GEoa:=gG_ hg;replace HB:=bw_ hb;clear hb hbox hg)|((with_reducible refine gc_ 60 rfl ?_);refine gM_ (some 4) Tryz.func60 (spec_DrawIsCircle.calls k _ _ l0 t619 t620 t621 t622 _ ?side1 ?side2 A2.1) ?_;(case side1=>exact(Z15 HR0));(case side2=>exact HC0.1);intro w4 hb;replace BKoa:=bk_ BKoa hb;replace HB:=bw_ hb;clear hb;obtain⟨_,_,_,_,_,_,_,_⟩:=cz4_ BKoa))
 refine bodyPost_ret (results_cell_row rfl _ _ gboa 37 #[.int .i64 t619,.int .i64 t620,.int .i64 t621,.int .i64 t622] (0,0) _ rfl (bb_ BKoa) Tryz.underlying37 rfl Z19) rfl ?_
 exact⟨Z6,ZB⟩
def Tryz.laysM171_ren:Go.Shelf.Ren:=⟨fun|171=>87|243=>102|246=>129|283=>147|284=>148|285=>149|286=>150|129=>128|317=>163|318=>164|319=>165|320=>166|337=>169|338=>170|n=>n,fun|3=>3|9=>9|2=>2|4=>4|171=>163|0=>0|53=>56|37=>22|5=>5|173=>165|212=>180|51=>143|20=>20|213=>181|46=>118|232=>188|233=>189|n=>n,fun|17=>3|18=>6|19=>7|n=>n⟩
theorem Tryz.laysM171:Go.Proofs.LaysM.n171 Tryz.prog Tryz.laysM171_ren:={
  mixed:=by kernel_rfl
  f129:=Tryz.func128.trans (congrArg some Z19)
  f171:=Tryz.func87.trans (congrArg some Z19)
  f243:=Tryz.func102.trans (congrArg some Z19)
  f246:=Tryz.func129.trans (congrArg some Z19)
  f283:=Tryz.func147.trans (congrArg some Z19)
  f284:=Tryz.func148.trans (congrArg some Z19)
  f285:=Tryz.func149.trans (congrArg some Z19)
  f286:=Tryz.func150.trans (congrArg some Z19)
  f317:=Tryz.func163.trans (congrArg some Z19)
  f318:=Tryz.func164.trans (congrArg some Z19)
  f319:=Tryz.func165.trans (congrArg some Z19)
  f320:=Tryz.func166.trans (congrArg some Z19)
  f337:=Tryz.func169.trans (congrArg some Z19)
  f338:=Tryz.func170.trans (congrArg some Z19)
  t0:=Tryz.underlying0
  a0:=Tryz.isAgg0
  z0:=Tryz.sizeOf0
  v0:=Tryz.zeroValue0
  t2:=Tryz.underlying2
  a2:=Tryz.isAgg2
  z2:=Tryz.sizeOf2
  v2:=Tryz.zeroValue2
  t3:=Tryz.underlying3
  a3:=Tryz.isAgg3
  z3:=Tryz.sizeOf3
  v3:=Tryz.zeroValue3
  t4:=Tryz.underlying4
  a4:=Tryz.isAgg4
  z4:=Tryz.sizeOf4
  v4:=Tryz.zeroValue4
  t5:=Tryz.underlying5
  a5:=Tryz.isAgg5
  z5:=Tryz.sizeOf5
  v5:=Tryz.zeroValue5
  t9:=Tryz.underlying9
  a9:=Tryz.isAgg9
  z9:=Tryz.sizeOf9
  v9:=Tryz.zeroValue9
  t20:=Tryz.underlying20
  a20:=Tryz.isAgg20
  z20:=Tryz.sizeOf20
  v20:=Tryz.zeroValue20
  t37:=Tryz.underlying22
  a37:=Tryz.isAgg22
  z37:=Tryz.sizeOf22
  v37:=Tryz.zeroValue22
  t46:=Tryz.underlying118
  a46:=Tryz.isAgg118
  z46:=Tryz.sizeOf118
  v46:=Tryz.zeroValue118
  t51:=Tryz.underlying143
  a51:=Tryz.isAgg143
  z51:=Tryz.sizeOf143
  v51:=Tryz.zeroValue143
  t53:=Tryz.underlying56
  a53:=Tryz.isAgg56
  z53:=Tryz.sizeOf56
  v53:=Tryz.zeroValue56
  t171:=Tryz.underlying163
  a171:=Tryz.isAgg163
  z171:=Tryz.sizeOf163
  v171:=Tryz.zeroValue163
  t173:=Tryz.underlying165
  a173:=Tryz.isAgg165
  z173:=Tryz.sizeOf165
  v173:=Tryz.zeroValue165
  t212:=Tryz.underlying180
  a212:=Tryz.isAgg180
  z212:=Tryz.sizeOf180
  v212:=Tryz.zeroValue180
  t213:=Tryz.underlying181
  a213:=Tryz.isAgg181
  z213:=Tryz.sizeOf181
  t232:=Tryz.underlying188
  a232:=Tryz.isAgg188
  z232:=Tryz.sizeOf188
  v232:=Tryz.zeroValue188
  t233:=Tryz.underlying189
  a233:=Tryz.isAgg189
  z233:=Tryz.sizeOf189
  v233:=Tryz.zeroValue189
  g17:=by kernel_rfl
  g18:=by kernel_rfl
  g19:=by kernel_rfl
  i0:=by kernel_rfl
  i2:=by kernel_rfl
  i3:=by kernel_rfl
  i4:=by kernel_rfl
  i5:=by kernel_rfl
  i9:=by kernel_rfl
  i20:=by kernel_rfl
  i37:=by kernel_rfl
  i46:=by kernel_rfl
  i51:=by kernel_rfl
  i53:=by kernel_rfl
  i171:=by kernel_rfl
  i173:=by kernel_rfl
  i212:=by kernel_rfl
  i232:=by kernel_rfl
  i233:=by kernel_rfl
  m17:=by kernel_rfl
  m18:=by kernel_rfl
  m19:=by kernel_rfl}
open Go.RowKit Go.Sort Go.Lib in
theorem Tryz.strconv_Itoa (n:Int) (h0: -9223372036854775808≤n) (h1:n≤9223372036854775807) (w:World) (htab:Lib.TabIs Tryz.prog w "internal/strconv.uint64pow10" .u64 Lib.pow10Tab):
    Calls Tryz.prog 87 #[.int .i64 n] w fun e w'=>e= .returned (.string ⟨(Lib.itoa n).toArray⟩)∧∃k os,w'=grow (w.drewN k) os:=Any.strconv_Itoa Tryz.laysM171 n h0 h1 w htab
def Tabs (w:World):Prop:=Lib.TabIs Tryz.prog w "internal/strconv.uint64pow10" .u64 Lib.pow10Tab
theorem Tabs.below {b:Nat} {w w':World} (h:Tabs w) (hb:Below b w w') (hw:w.heap.size≤b):Tabs w':=by
  unfold Tabs Lib.TabIs World.var? at h ⊢
  cases hg:Tryz.prog.globalNamed "internal/strconv.uint64pow10" with
  |none=>rw[hg]at h;cases h
  |some g=>
    rw[hg]at h
    simp only[Option.bind_some]at h ⊢
    have hlt:g<w.heap.size:=by
      rcases Nat.lt_or_ge g w.heap.size with h'|h'
      · exact h'
      · rw[Array.getElem?_eq_none h']at h;cases h
    rw[hb.block g (Nat.lt_of_lt_of_le hlt hw)]
    exact h
def strconv_Itoa.f (a0:Int):Option ByteArray:=if -9223372036854775808≤a0 then(if a0≤9223372036854775807 then(some ⟨(Lib.itoa a0).toArray⟩)else none)else none
theorem strconv_Itoa.calls (a0:Int) (r:ByteArray) (w:World) (htabs:Tabs w) (h:strconv_Itoa.f a0=some r):
  Calls Tryz.prog 87 #[.int .i64 a0] w fun e w'=>e= .returned (.string r)∧Below w.heap.size w w':=by
 unfold strconv_Itoa.f at h
 by_cases h0: -9223372036854775808≤a0
 rotate_left
 ·
  rw[if_neg h0]at h;cases h
 rw[if_pos h0]at h
 by_cases h1:a0≤9223372036854775807
 rotate_left
 ·
  rw[if_neg h1]at h;cases h
 rw[if_pos h1]at h
 obtain rfl:=Option.some.inj h
 refine(Tryz.strconv_Itoa a0 h0 h1 w htabs).mono ?_
 rintro e w' ⟨rfl,k,os,rfl⟩
 refine⟨rfl,?_⟩
 refine⟨rfl,rfl,rfl,?_,?_⟩
 ·
  simp[Go.Sort.grow]
 intro j hj
 simp[Go.Sort.grow,Array.getElem?_append_left hj]
def Tryz.lays156_ren:Go.Shelf.Ren:=⟨fun|156=>88|165=>103|166=>104|169=>105|240=>130|241=>131|276=>151|277=>152|n=>n,fun|31=>86|9=>9|3=>3|4=>4|0=>0|20=>20|72=>123|76=>90|70=>121|37=>22|75=>89|127=>146|164=>167|5=>5|80=>124|n=>n,fun|n=>n⟩
theorem Tryz.lays156:Go.Proofs.Lays.n156 Tryz.prog Tryz.lays156_ren:={
  mixed:=by kernel_rfl
  f156:=Tryz.func88.trans (congrArg some Z19)
  f165:=Tryz.func103.trans (congrArg some Z19)
  f166:=Tryz.func104.trans (congrArg some Z19)
  f169:=Tryz.func105.trans (congrArg some Z19)
  f240:=Tryz.func130.trans (congrArg some Z19)
  f241:=Tryz.func131.trans (congrArg some Z19)
  f276:=Tryz.func151.trans (congrArg some Z19)
  f277:=Tryz.func152.trans (congrArg some Z19)
  t0:=Tryz.underlying0
  a0:=Tryz.isAgg0
  z0:=Tryz.sizeOf0
  v0:=Tryz.zeroValue0
  t3:=Tryz.underlying3
  a3:=Tryz.isAgg3
  z3:=Tryz.sizeOf3
  v3:=Tryz.zeroValue3
  t4:=Tryz.underlying4
  a4:=Tryz.isAgg4
  z4:=Tryz.sizeOf4
  v4:=Tryz.zeroValue4
  t9:=Tryz.underlying9
  a9:=Tryz.isAgg9
  z9:=Tryz.sizeOf9
  v9:=Tryz.zeroValue9
  t20:=Tryz.underlying20
  a20:=Tryz.isAgg20
  z20:=Tryz.sizeOf20
  v20:=Tryz.zeroValue20
  t31:=Tryz.underlying86
  a31:=Tryz.isAgg86
  z31:=Tryz.sizeOf86
  v31:=Tryz.zeroValue86
  t37:=Tryz.underlying22
  a37:=Tryz.isAgg22
  z37:=Tryz.sizeOf22
  v37:=Tryz.zeroValue22
  t70:=Tryz.underlying121
  a70:=Tryz.isAgg121
  z70:=Tryz.sizeOf121
  v70:=Tryz.zeroValue121
  t72:=Tryz.underlying123
  a72:=Tryz.isAgg123
  z72:=Tryz.sizeOf123
  v72:=Tryz.zeroValue123
  t75:=Tryz.underlying89
  a75:=Tryz.isAgg89
  z75:=Tryz.sizeOf89
  v75:=Tryz.zeroValue89
  t76:=Tryz.underlying90
  a76:=Tryz.isAgg90
  z76:=Tryz.sizeOf90
  v76:=Tryz.zeroValue90
  t127:=Tryz.underlying146
  a127:=Tryz.isAgg146
  z127:=Tryz.sizeOf146
  v127:=Tryz.zeroValue146
  t164:=Tryz.underlying167
  a164:=Tryz.isAgg167
  z164:=Tryz.sizeOf167
  v164:=Tryz.zeroValue167}
theorem Tryz.Builder_Extra_156:Builder.Extra Tryz.prog Tryz.lays156_ren:={
  sizeBuilder:=by kernel_rfl
  liesBuilder:=by kernel_rfl
  t5:=Tryz.underlying5
  a5:=Tryz.isAgg5
  z5:=Tryz.sizeOf5
  v5:=Tryz.zeroValue5
  infoByte:=by kernel_rfl
  cellsByte:=by kernel_rfl
  sizeByte:=by kernel_rfl
  neB5:=by decide}
open Go.RowKit in
theorem Tryz.strings_Join_none (a:Option Addr) (c:Nat) (sep:ByteArray) (w:World):
    Calls Tryz.prog 88 #[.slice a 0 c,.string sep] w fun e w'=>e= .returned (.string ⟨#[]⟩)∧w'=w:=Any.strings_Join_none Tryz.lays156 Tryz.Builder_Extra_156 a c sep w
open Go.RowKit in
theorem Tryz.strings_Join (bk o c:Nat) (xs:List ByteArray) (sep:ByteArray) (w:World) (hcells:∀(j:Nat) x,xs[j]?=some x→w.cell? ⟨bk,o+j,none⟩=some (.string x)) (hbk:bk<w.heap.size) (hN:xs.length≤140737488355328) (hcap:xs.length≤c) (hlen:(Lib.join (xs.map (·.data.toList)) sep.data.toList).length≤140737488355328):
    Calls Tryz.prog 88 #[.slice (some ⟨bk,o,none⟩) xs.length c,.string sep] w fun e w'=>e= .returned (.string ⟨(Lib.join (xs.map (·.data.toList)) sep.data.toList).toArray⟩)∧Below w.heap.size w w':=Any.strings_Join Tryz.lays156 Tryz.Builder_Extra_156 bk o c xs sep w hcells hbk hN hcap hlen
def strings_Join.f (l0:List ByteArray) (a1:ByteArray):Option ByteArray:=if l0.length≤140737488355328 then(if(Lib.join (l0.map (·.data.toList)) a1.data.toList).length≤140737488355328 then(some ⟨(Lib.join (l0.map (·.data.toList)) a1.data.toList).toArray⟩)else none)else none
theorem strings_Join.calls (A0:Option Addr) (c0:Nat) (l0:List ByteArray) (a1:ByteArray) (r:ByteArray) (w:World) (hr0:Kd.C Kd.string w A0 l0.length l0) (hc0:l0.length≤c0) (h:strings_Join.f l0 a1=some r):
  Calls Tryz.prog 88 #[.slice A0 l0.length c0,.string a1] w fun e w'=>e= .returned (.string r)∧Below w.heap.size w w':=by
 unfold strings_Join.f at h
 by_cases h0:l0.length≤140737488355328
 rotate_left
 ·
  rw[if_neg h0]at h;cases h
 rw[if_pos h0]at h
 by_cases h1:(Lib.join (l0.map (·.data.toList)) a1.data.toList).length≤140737488355328
 rotate_left
 ·
  rw[if_neg h1]at h;cases h
 rw[if_pos h1]at h
 obtain rfl:=Option.some.inj h
 by_cases hz:l0=[]
 ·
  subst hz
  refine(Tryz.strings_Join_none A0 c0 a1 w).mono ?_
  rintro e w' ⟨rfl,rfl⟩
  exact⟨rfl,Below.refl _ _⟩
 have hpos:0<l0.length:=List.length_pos_iff.2 hz
 obtain⟨ad,rfl,hx0⟩:=Kd.at_string hr0 0 (Int.le_refl _) (by omega)
 obtain⟨bk,o,sp⟩:=ad
 have hb:sp=none∧bk<w.heap.size:=by
  unfold World.cell? at hx0
  simp only[Addr.add,Int.toNat_zero,if_true]at hx0
  cases hg:w.heap[bk]? with
  |none=>rw[hg]at hx0;cases hx0
  |some ob=>
   refine⟨?_,(Array.getElem?_eq_some_iff.1 hg).1⟩
   rw[hg]at hx0
   cases ob with
   |cells c t f=>
    simp only at hx0
    split at hx0
    ·
     cases hx0
    rename_i hs
    cases sp with
    |none=>rfl
    |some s=>simp at hs
   |_=>cases hx0
 obtain⟨rfl,hbk⟩:=hb
 refine(Tryz.strings_Join bk o c0 l0 a1 w ?_ hbk h0 hc0 h1).mono ?_
 rotate_left
 ·
  rintro e w' ⟨rfl,hb⟩
  exact⟨rfl,hb⟩
 intro j x hj
 have hjl:j<l0.length:=(List.getElem?_eq_some_iff.1 hj).1
 obtain⟨ad,e,hx⟩:=Kd.at_string hr0 (j:Int) (by omega) (by omega)
 cases e
 have e2:rdOf ByteArray.empty l0 (j:Int)=x:=by
  unfold rdOf
  rw[Int.toNat_natCast,List.getD_eq_getElem?_getD,hj];rfl
 rw[e2]at hx
 have e3:(⟨bk,o,none⟩:Addr).add (j:Int).toNat=⟨bk,o+j,none⟩:=by
  unfold Addr.add
  rw[Int.toNat_natCast]
  split
  ·
   rename_i hj0
   rw[hj0,Nat.add_zero]
  rfl
 rw[e3]at hx
 exact hx
def impl_words.l0:Nat→List ByteArray→List Int→Int→Int→Option (ByteArray)
  |0,_,_,_,_=>none
  |k+1,x3,x7,x8,x9=>if x9<x8 then(if 0≤x9 then(if x9<(x7.length:Int)then((strconv_Itoa.f (rd x7 x9)).bind fun t627=>(if x3.length<8796093022208 then(impl_words.l0 k (x3++[t627]) x7 x8 (wrap64 (x9+1)))else(none)))else(none))else(none))else((strings_Join.f x3 (⟨#[32]⟩:ByteArray)).bind fun t631=>(some t631))
def impl_words.f (k:Nat) (l0:List Int):Option (ByteArray):=impl_words.l0 k (([]:List ByteArray)) l0 (l0.length:Int) 0
theorem impl_words.mono_l:∀k,(∀y0 y1 y2 y3,LeO (impl_words.l0 k y0 y1 y2 y3) (impl_words.l0 (k+1) y0 y1 y2 y3))
  |0=>fun _ _ _ _ r h=>by simp[impl_words.l0]at h
  |k+1=>by
    have ih0:=impl_words.mono_l k
    · intro y0 y1 y2 y3
      unfold impl_words.l0
      exact mo_
theorem impl_words.mono:∀a0 k,LeO (impl_words.f k a0) (impl_words.f (k+1) a0):=by
  intro a0 k
  have ih0:=impl_words.mono_l k
  unfold impl_words.f
  exact mo_
set_option maxHeartbeats 8000000 in
set_option maxRecDepth 100000 in
theorem impl_words.calls (k:Nat) (A0:Option Addr) (c0:Nat) (l0:List Int) (r:ByteArray) (w:World) (hr0:Kd.C (Kd.int .i64) w A0 l0.length l0) (hc0:l0.length≤c0) (htabs:Tabs w) (h:impl_words.f k l0=some r):
  Calls Tryz.prog 61 #[.slice A0 l0.length c0] w fun e w'=>e= .returned (.string r)∧Below w.heap.size w w':=by
 have HR0:=am hr0
 have HC0:=am hc0
 clear hr0 hc0
 have HB:=am (Below.refl w.heap.size w)
 have HTABS:=am htabs
 clear htabs
 have H:=h
 clear h
 unfold impl_words.f at H
 obtain⟨y_a,hy_a⟩:∃y_:List ByteArray,y_=(([]:List ByteArray)):=⟨_,rfl⟩
 replace H:(impl_words.l0 k y_a l0 (l0.length:Int) 0)=some r:=Z8
 have Ny_a:=am hy_a
 clear hy_a
 have H':=am H
 clear H
 go_enter Tryz.func61,Tryz.ntmps61
 go_wp2_with (first|((with_reducible refine gd_ 6 rfl ?_);refine Kd.R_lit Kd.string _ 9 ?hg (N:=6) ?hd (xs:=([]:List ByteArray)) (inner:=[]) (ok:=fun _=>True) (okp:=fun _=>True) ?hr ?hp (fun _ hk=>hk) trivial (Below.refl _ _) (Nat.le_refl _) (by simp) ?_;(case hd=>rfl);(case hg=>rfl);(case hr=>first|(go_simp;done)|(go_simp;rfl));(case hp=>exact(Reps.none _ _));intro v624 w2 ho3 hb hg_ hnew_;clear hg_ hnew_;(first|rw[←Ny_a.1]at ho3|(simp only[Int.reduceToNat]at ho3;rw[←Ny_a.1]at ho3));have HOoa:=am (Kd.R_lower ho3 zs_);replace HB:=bw_ hb;clear hb ho3))
 go_loopg [3,9] k (fun kq v3 v9 w'=>∃(x3_1:List ByteArray) (x9_1:Int),v9= .int .i64 x9_1∧Aside0 (impl_words.l0 kq x3_1 l0 (l0.length:Int) x9_1=some r)∧Aside0 (kq≤k)∧Aside0 (Kd.R Kd.string 9 w' w.heap.size (fun _=>True) v3 x3_1)∧Aside0 (Below w.heap.size w w'))
 case atStart=>exact⟨(y_a),(0),Z7,H',⟨Nat.le_refl _⟩,⟨(Z1 HOoa)⟩,⟨ZB⟩⟩
 clear H'
 obtain⟨x3_1,x9_1,rfl,HA,HK1,HO_3,HB⟩:=hrel
 obtain _|k1:=gk
 ·
  exact absurd HA.out (by simp[impl_words.l0])
 have H:=HA.out
 clear HA
 simp only[impl_words.l0]at H
 by_cases c4:x9_1<(l0.length:Int)
 rotate_left
 ·
  rw[if_neg c4]at H
  have c4b0:=decide_eq_false c4
  clear c4
  obtain⟨t631,A11,H⟩:=bs_ H
  try dsimp only at H
  obtain rfl:=Option.some.inj H
  obtain⟨Ao12,co12,eo12⟩:=Kd.R_slice HO_3.1
  subst eo12
  go_wp2_with (first|((with_reducible refine gc_ 88 rfl ?_);refine gM_ (some 20) Tryz.func88 (strings_Join.calls _ _ x3_1 (⟨#[32]⟩:ByteArray) t631 _ ?side1 ?side2 A11.1) ?_;(case side1=>exact(Z10 HO_3));(case side2=>exact(Kd.R_reads' HO_3.1).2.1);intro w13 hb;replace HO_3:=am (Kd.R_below (Z1 HO_3) hb);replace HB:=bw_ hb;clear hb))
  go_ret
  exact⟨Z6,ZB⟩
 rw[if_pos c4]at H
 have c4b0:=decide_eq_true c4
 clear c4
 obtain⟨c5,H⟩:=ip_ H
 have c5b0:=decide_eq_true c5
 clear c5
 obtain⟨c6,H⟩:=ip_ H
 have c6b0:=decide_eq_true c6
 clear c6
 obtain⟨t627,A7,H⟩:=bs_ H
 try dsimp only at H
 obtain⟨c8,H⟩:=ip_ H
 have LMc8:=am c8
 clear c8
 obtain⟨y_b,hy_b⟩:∃y_:List ByteArray,y_=(x3_1++[t627]):=⟨_,rfl⟩
 replace H:(impl_words.l0 k1 y_b l0 (l0.length:Int) (wrap64 (x9_1+1)))=some r:=Z14
 have Ny_b:=am hy_b
 clear hy_b
 have H':=am H
 clear H
 have p626:0≤(x9_1:Int):=of_decide_eq_true Z5
 have q626:x9_1<(l0.length:Int):=of_decide_eq_true Z5
 obtain⟨ad626,e626,hx626_0⟩:=Kd.at_int HR0.1 x9_1 p626 q626
 cases e626
 replace hx626_0:=(HB.1.cell (World.block_lt_of_cell? w _ hx626_0)).trans hx626_0
 replace p626:=eq_true p626
 replace q626:=eq_true q626
 go_wp2_with (first|((with_reducible refine gc_ 87 rfl ?_);refine gM_ (some 15) Tryz.func87 (strconv_Itoa.calls (rd l0 x9_1) t627 _ ?tabs A7.1) ?_;(case tabs=>exact Tabs.below HTABS.out ZB (Nat.le_refl _));intro w9 hb;replace HO_3:=am (Kd.R_below (Z1 HO_3) hb);replace HB:=bw_ hb;clear hb)|((with_reducible refine gate_builtin (b:= .append) (xs:=#[.tmp 13,.tmp 16]) rfl ?_);at_builtin;refine Kd.R_append Kd.string (w0:=w) w.heap.size rfl (.tmp 13) (.tmp 16) 86 9 (.string ⟨#[]⟩) 16 rfl Tryz.underlying86 info9 rfl (by decide) (by omega) u3 x3_1 t627 [.string t627] (fun _=>True) (fun _=>False) rfl rfl ?aP (fun _ hk=>hk.elim) ?aF ?aO ?aB ?aS ?aL ?_;(case aP=>exact rfl);(case aB=>exact ZB);(case aF=>exact(fun _ _=>trivial));(case aO=>exact(Z1 HO_3));(case aS=>exact zs_);(case aL=>have:=LMc8.out;omega);intro v629 w10 ho hb hg hat;rw[←Ny_b.1]at ho;replace HB:=am hb;have HOob:=am ho;clear HO_3;clear ho hb hg hat))
 go_roundg k1
 case measure=>have:=HK1.1;omega
 exact⟨(y_b),(wrap64 (x9_1+1)),Z7,H',⟨Z34⟩,⟨(Z1 HOob)⟩,⟨ZB⟩⟩
def impl_CircleText.f (k:Nat) (a0_0:Int) (a0_1:Int) (a0_2:Int) (a0_3:Int):Option (ByteArray × Bool):=(impl_IsCircle.f a0_0 a0_1 a0_2 a0_3).bind fun t633=>(if t633=true then((impl_Circle_numbers.f a0_0 a0_1 a0_2 a0_3).bind fun t634=>((impl_words.f k t634).bind fun t637=>(some (t637,true))))else(some ((⟨#[]⟩:ByteArray),false)))
theorem impl_CircleText.mono:∀a0 a1 a2 a3 k,LeO (impl_CircleText.f k a0 a1 a2 a3) (impl_CircleText.f (k+1) a0 a1 a2 a3):=by
  intro a0 a1 a2 a3 k
  unfold impl_CircleText.f
  exact mo_
set_option maxHeartbeats 8000000 in
set_option maxRecDepth 100000 in
theorem impl_CircleText.calls (k:Nat) (a0_0:Int) (a0_1:Int) (a0_2:Int) (a0_3:Int) (r1:ByteArray) (r2:Bool) (w:World) (htabs:Tabs w) (h:impl_CircleText.f k a0_0 a0_1 a0_2 a0_3=some (r1,r2)):
  Calls Tryz.prog 22 #[.agg #[.int .i64 a0_0,.int .i64 a0_1,.int .i64 a0_2,.int .i64 a0_3]] w fun e w'=>e= .returned (.tuple #[.string r1,.bool r2])∧Below w.heap.size w w':=by
 have hu37:=Tryz.underlying37
 have HB:=am (Below.refl w.heap.size w)
 have HTABS:=am htabs
 clear htabs
 have H:=h
 clear h
 unfold impl_CircleText.f at H
 obtain⟨t633,A2,H⟩:=bs_ H
 try dsimp only at H
 by_cases c3:t633=true
 rotate_left
 ·
  replace c3:=Bool.eq_false_iff.mpr c3
  subst c3
  rw[if_neg (show¬(false=true) by decide)]at H
  simp only[Option.some.injEq,Prod.mk.injEq]at H
  obtain⟨rfl,rfl⟩:=H
  go_enter Tryz.func22,Tryz.ntmps22
  go_wp2_with (first|((with_reducible refine gd_ 1 rfl ?_);refine boxN_ 1 #[.int .i64 a0_0,.int .i64 a0_1,.int .i64 a0_2,.int .i64 a0_3] 37 ?_;intro gboa hg w13 hbox hb;have BKoa:=am hbox;have GWoa:=gG_ hg;have GEoa:=gG_ hg;replace HB:=bw_ hb;clear hb hbox hg;obtain⟨_,_,_,_,_,_,_,_⟩:=cz4_ BKoa)|((with_reducible refine gc_ 12 rfl ?_);refine gM_ (some 5) Tryz.func12 (impl_IsCircle.calls a0_0 a0_1 a0_2 a0_3 false _ A2.1) ?_;intro w15 hb;replace BKoa:=bk_ BKoa hb;replace HB:=bw_ hb;clear hb))
  go_ret2
  exact⟨Z6,ZB⟩
 subst c3
 rw[if_pos rfl]at H
 obtain⟨t634,A4,H⟩:=bs_ H
 try dsimp only at H
 obtain⟨t637,A5,H⟩:=bs_ H
 try dsimp only at H
 simp only[Option.some.injEq,Prod.mk.injEq]at H
 obtain⟨rfl,rfl⟩:=H
 go_enter Tryz.func22,Tryz.ntmps22
 go_wp2_with (first|((with_reducible refine gd_ 1 rfl ?_);refine boxN_ 1 #[.int .i64 a0_0,.int .i64 a0_1,.int .i64 a0_2,.int .i64 a0_3] 37 ?_;intro gboa hg w6 hbox hb;have BKoa:=am hbox;have GWoa:=gG_ hg;have GEoa:=gG_ hg;replace HB:=bw_ hb;clear hb hbox hg;obtain⟨_,_,_,_,_,_,_,_⟩:=cz4_ BKoa)|((with_reducible refine gc_ 12 rfl ?_);refine gM_ (some 5) Tryz.func12 (impl_IsCircle.calls a0_0 a0_1 a0_2 a0_3 true _ A2.1) ?_;intro w8 hb;replace BKoa:=bk_ BKoa hb;replace HB:=bw_ hb;clear hb;obtain⟨_,_,_,_,_,_,_,_⟩:=cz4_ BKoa)|((with_reducible refine gc_ 52 rfl ?_);refine gE_ (some 8) Tryz.func52 (impl_Circle_numbers.calls a0_0 a0_1 a0_2 a0_3 t634 _ A4.1) ?_;rintro v635 w10 ⟨ho0,hb⟩;have HOob:=am (Kd.R_lower ho0 zs_);replace BKoa:=bk_ BKoa hb;replace HB:=bw_ hb;clear hb;(try clear ho0);obtain⟨Ao11,co11,eo11⟩:=Kd.R_slice HOob.1;subst eo11)|((with_reducible refine gc_ 61 rfl ?_);refine gM_ (some 9) Tryz.func61 (impl_words.calls k _ _ t634 t637 _ ?side1 ?side2 ?tabs A5.1) ?_;(case tabs=>exact Tabs.below HTABS.out ZB (Nat.le_refl _));(case side1=>exact(Z10 HOob));(case side2=>exact(Kd.R_reads' HOob.1).2.1);intro w12 hb;replace HOob:=am (Kd.R_below (Z1 HOob) hb);replace BKoa:=bk_ BKoa hb;replace HB:=bw_ hb;clear hb))
 go_ret2
 exact⟨Z6,ZB⟩
def spec_l1Num.f:Nat→Int→Option (ByteArray)
  |0,_=>none
  |k+1,a0=>if a0<10 then(some (strOfNums (([(wrap64 (48+a0))%256]:List Int))))else((spec_l1Num.f k (wrap64 (Int.tdiv a0 10))).bind fun t641=>((some (([(wrap64 (48+(Int.tmod a0 10)))%256]:List Int):List Int)).bind fun y642=>(if t641.size+(strOfNums y642).size≤9223372036854775807 then(some (t641++(strOfNums y642)))else(none))))
theorem spec_l1Num.mono_l:∀k,(∀y0,LeO (spec_l1Num.f k y0) (spec_l1Num.f (k+1) y0))
  |0=>fun _ r h=>by simp[spec_l1Num.f]at h
  |k+1=>by
    have ih0:=spec_l1Num.mono_l k
    · intro y0
      unfold spec_l1Num.f
      exact mo_
theorem spec_l1Num.mono:∀a0 k,LeO (spec_l1Num.f k a0) (spec_l1Num.f (k+1) a0):=by
  intro a0 k
  have ih0:=spec_l1Num.mono_l k
  exact ih0 a0
def spec_l1Num.T3:Bool × List (List Nat × List Nat):=(true,[([],[]),([0],[0]),([1],[1]),([],[]),([3],[3]),([4],[4]),([5],[5]),([6],[6]),([7],[7]),([2,8],[2,8]),([9,2,0,1,2,3,4,5,6,7,8,9],[9])])
def spec_l1Num.B3:List Nat:=[0,1,3,0,8,24,56,120,248,511,1023]
theorem spec_l1Num.tab3:rtab .any (opsOf Tryz.f106 3)=spec_l1Num.T3:=by kernel_rfl
theorem spec_l1Num.bits3:waitsOk spec_l1Num.T3.2 spec_l1Num.B3=true:=by kernel_rfl
set_option maxHeartbeats 8000000 in
set_option maxRecDepth 100000 in
theorem spec_l1Num.calls (k:Nat):∀(a0:Int) (r:ByteArray) (w:World) (h:spec_l1Num.f k a0=some r),
  Calls Tryz.prog 106 #[.int .i64 a0] w fun e w'=>e= .returned (.string r)∧Below w.heap.size w w':=by
 induction k using Nat.strongRecOn with
 |_ k ih=>
 intro a0 r w h
 cases k with
 |zero=>exact absurd h (by simp[spec_l1Num.f])
 |succ k=>
 simp only[spec_l1Num.f]at h
 have HB:=am (Below.refl w.heap.size w)
 have H:(if a0<10 then(some (strOfNums (([(wrap64 (48+a0))%256]:List Int))))else((spec_l1Num.f k (wrap64 (Int.tdiv a0 10))).bind fun t641=>((some (([(wrap64 (48+(Int.tmod a0 10)))%256]:List Int):List Int)).bind fun y_a=>(if t641.size+(strOfNums y_a).size≤9223372036854775807 then(some (t641++(strOfNums y_a)))else(none)))))=some r:=h
 clear h
 by_cases c2:a0<10
 ·
  rw[if_pos c2]at H
  have c2b0:=decide_eq_true c2
  clear c2
  obtain⟨y_b,hy_b⟩:∃y_:List Int,y_=(([(wrap64 (48+a0))%256]:List Int)):=⟨_,rfl⟩
  replace H:(some (strOfNums y_b))=some r:=Z14
  have Ny_b:=am hy_b
  clear hy_b
  obtain rfl:=Option.some.inj H
  go_enter Tryz.func106,Tryz.ntmps106
  go_wp2_with (first|((with_reducible refine gd_ 8 rfl ?_);refine Kd.R_lit (Kd.int .u8) _ 5 ?hg (N:=8) ?hd (xs:=([(wrap64 (48+a0))%256]:List Int)) (inner:=[.int .u8 ((wrap64 (48+a0))%256)]) (ok:=fun _=>True) (okp:=fun _=>True) ?hr ?hp (fun _ hk=>hk) trivial (Below.refl _ _) (Nat.le_refl _) (by simp) ?_;(case hd=>rfl);(case hg=>rfl);(case hr=>first|(go_simp;done)|(go_simp;rfl));(case hp=>exact(Reps.one (show Kd.M (Kd.int .u8) _ _ _ ((wrap64 (48+a0))%256) [.int .u8 ((wrap64 (48+a0))%256)]from rfl) (Reps.none _ _)));intro v639 w3 ho4 hb hg_ hnew_;clear hg_ hnew_;(first|rw[←Ny_b.1]at ho4|(simp only[Int.reduceToNat]at ho4;rw[←Ny_b.1]at ho4));have HOoa:=am (Kd.R_lower ho4 zs_);replace HB:=bw_ hb;clear hb ho4;have hcv5:=own_string (P:=Tryz.prog) Tryz.underlying22 Tryz.underlying5 Tryz.underlying9 (Kd.own_of_R HOoa.1)))
  go_ret
  exact⟨Z6,ZB⟩
 rw[if_neg c2]at H
 have c2b0:=decide_eq_false c2
 clear c2
 obtain⟨t641,A6,H⟩:=bs_ H
 try dsimp only at H
 obtain⟨y_a,hy_a⟩:∃y_:List Int,y_=(([(wrap64 (48+(Int.tmod a0 10)))%256]:List Int)):=⟨_,rfl⟩
 replace H:(if t641.size+(strOfNums y_a).size≤9223372036854775807 then(some (t641++(strOfNums y_a)))else(none))=some r:=Z8
 have Ny_a:=am hy_a
 clear hy_a
 obtain⟨c7,H⟩:=ip_ H
 have c7b0:=eq_true c7
 have c7b1:=decide_eq_true c7
 try have c7b2:(9223372036854775807<t641.size+(strOfNums y_a).size)=False:=eq_false (Nat.not_lt.2 c7)
 obtain rfl:=Option.some.inj H
 go_enter Tryz.func106,Tryz.ntmps106
 try go_wp2
 have n0_:=am (below_drew1 HB.1)
 clear HB
 have HB:=n0_
 clear n0_
 refine start_ (n:=11) (S:=fun w'=>True) (ds:=[]) M4 Z19 rfl rfl trivial (fun hHeld=>?_);refine with_tabW spec_l1Num.tab3 spec_l1Num.bits3 (fun HT_ HW_=>?_)
 generalize w.drew=w8 at HB hHeld ⊢
 refine pury_ 0 10 M12 HT_ ?_
 refine pury_ 1 11 M15 HT_ ?_
 refine pury_ 3 13 M17 HT_ ?_
 refine pury_ 4 14 #[true,true,false,true,true,false,false,false,false,false,false] HT_ ?_
 refine pury_ 5 15 #[true,true,false,true,true,true,false,false,false,false,false] HT_ ?_
 refine pury_ 6 16 #[true,true,false,true,true,true,true,false,false,false,false] HT_ ?_
 refine join_ (σ:=Value) 2 M48 (fun s_=>[(12,.string t641),(17,s_),(18,.string (strOfNums y_a))]) (fun s_ w'=>(Kd.R (Kd.int .u8) 5 w' w.heap.size (fun _=>True) s_ y_a)∧(Below w.heap.size w w')) ?_ ?_
 rotate_left
 ·
  intro hCont
  refine two_ (i:=2) (j:=7) (Ni:=some 12) (Nj:=some 17) #[true,true,true,true,true,true,true,false,false,false,false] #[true,true,false,true,true,true,true,true,false,false,false] rfl rfl rfl rfl (two_of HT_.out Z19) (by decide) (by decide) (fun K hK=>?_) (fun K hK=>?_)
  ·
   skip
   refine goes_ Tryz.func106 Z19 rfl #[.int .i64 (wrap64 (Int.tdiv a0 10))] (by rfl) rfl rfl Z18 ?_
   with_reducible refine(ih k (by omega) (wrap64 (Int.tdiv a0 10)) t641 _ A6.1).mono ?_
   rintro e w9 ⟨rfl,hb⟩
   refine⟨_,rfl,?_⟩
   have n0_:=bw_ hb
   clear HB
   have HB:=n0_
   clear n0_
   (try clear hb)
   (try clear hb2)
   (try clear hk)
   (try clear hi)
   refine hK.out _ _ trivial (fun hHeld=>?_)
   clear hK K
   refine norm_ (a':=?_) ?_ ?_
   rotate_left
   ·
    show Act.put _ (some 12) _=_
    simp only[Act.put,List.setIfInBounds_toArray,List.set_cons_zero,List.set_cons_succ,i64_w,i32_w]
    rfl
   refine one_ (i:=7) (N:=some 17) M45 rfl rfl (one_of HT_.out Z19) (by decide) (fun K hK=>?_)
   refine Kd.R_lit_step (Kd.int .u8) _ 5 ?hg (N:=17) ?hd (xs:=([(wrap64 (48+(Int.tmod a0 10)))%256]:List Int)) (inner:=[.int .u8 ((wrap64 (48+(Int.tmod a0 10)))%256)]) (ok:=fun _=>True) (okp:=fun _=>True) ?hr ?hp (fun _ hk=>hk) trivial (Below.refl _ _) (Nat.le_refl _) (by simp) ?_;(case hd=>rfl);(case hg=>rfl);(case hr=>first|(go_simp;done)|(go_simp;rfl));(case hp=>exact(Reps.one (show Kd.M (Kd.int .u8) _ _ _ ((wrap64 (48+(Int.tmod a0 10)))%256) [.int .u8 ((wrap64 (48+(Int.tmod a0 10)))%256)]from rfl) (Reps.none _ _)))
   intro v643 w10 ho11 hb hg_ hnew_
   clear hg_ hnew_
   (first|rw[←Ny_a.1]at ho11|(simp only[Int.reduceToNat]at ho11;rw[←Ny_a.1]at ho11))
   have n0_:=am (Kd.R_lower ho11 zs_)
   have n1_:=bw_ hb
   clear HB
   have HOob:=n0_
   have HB:=n1_
   clear n0_ n1_
   clear hb ho11
   refine hK.out _ _ trivial (fun hHeld=>?_)
   clear hK K
   refine norm_ (a':=?_) ?_ ?_
   rotate_left
   ·
    show Act.put _ (some 17) _=_
    simp only[Act.put,List.setIfInBounds_toArray,List.set_cons_zero,List.set_cons_succ,i64_w,i32_w]
    rfl
   refine one_ (i:=8) (N:=some 18) M48 rfl rfl (one_of HT_.out Z19) (by decide) (fun K hK=>?_)
   have hcv12:=own_string (P:=Tryz.prog) Tryz.underlying22 Tryz.underlying5 Tryz.underlying9 (Kd.own_of_R HOob.1)
   refine value_ (w1:=?_) (v:=?_) (by rfl) rfl ?_ ?_
   rotate_left 2
   ·
    go_simp
    constructor
    ·
     rfl
    rfl
   clear hcv12
   refine hK.out _ _ trivial (fun hHeld=>?_)
   clear hK K
   refine norm_ (a':=?_) ?_ ?_
   rotate_left
   ·
    show Act.put _ (some 18) _=_
    simp only[Act.put,List.setIfInBounds_toArray,List.set_cons_zero,List.set_cons_succ,i64_w,i32_w]
    rfl
   exact norm_ Z54 (hCont (v643) _ ⟨(Z1 HOob),ZB⟩)
  skip
  refine Kd.R_lit_step (Kd.int .u8) _ 5 ?hg (N:=17) ?hd (xs:=([(wrap64 (48+(Int.tmod a0 10)))%256]:List Int)) (inner:=[.int .u8 ((wrap64 (48+(Int.tmod a0 10)))%256)]) (ok:=fun _=>True) (okp:=fun _=>True) ?hr ?hp (fun _ hk=>hk) trivial (Below.refl _ _) (Nat.le_refl _) (by simp) ?_;(case hd=>rfl);(case hg=>rfl);(case hr=>first|(go_simp;done)|(go_simp;rfl));(case hp=>exact(Reps.one (show Kd.M (Kd.int .u8) _ _ _ ((wrap64 (48+(Int.tmod a0 10)))%256) [.int .u8 ((wrap64 (48+(Int.tmod a0 10)))%256)]from rfl) (Reps.none _ _)))
  intro v643 w9 ho10 hb hg_ hnew_
  clear hg_ hnew_
  (first|rw[←Ny_a.1]at ho10|(simp only[Int.reduceToNat]at ho10;rw[←Ny_a.1]at ho10))
  have n0_:=am (Kd.R_lower ho10 zs_)
  have n1_:=bw_ hb
  clear HB
  have HOob:=n0_
  have HB:=n1_
  clear n0_ n1_
  clear hb ho10
  refine hK.out _ _ trivial (fun hHeld=>?_)
  clear hK K
  refine norm_ (a':=?_) ?_ ?_
  rotate_left
  ·
   show Act.put _ (some 17) _=_
   simp only[Act.put,List.setIfInBounds_toArray,List.set_cons_zero,List.set_cons_succ,i64_w,i32_w]
   rfl
  refine two_ (i:=2) (j:=8) (Ni:=some 12) (Nj:=some 18) M45 #[true,true,false,true,true,true,true,true,true,false,false] rfl rfl rfl rfl (two_of HT_.out Z19) (by decide) (by decide) (fun K hK=>?_) (fun K hK=>?_)
  ·
   skip
   refine goes_ Tryz.func106 Z19 rfl #[.int .i64 (wrap64 (Int.tdiv a0 10))] (by rfl) rfl rfl Z18 ?_
   with_reducible refine(ih k (by omega) (wrap64 (Int.tdiv a0 10)) t641 _ A6.1).mono ?_
   rintro e w11 ⟨rfl,hb⟩
   refine⟨_,rfl,?_⟩
   have n0_:=am (Kd.R_below (Z1 HOob) hb)
   have n1_:=bw_ hb
   clear HOob
   clear HB
   have HOob:=n0_
   have HB:=n1_
   clear n0_ n1_
   (try clear hb)
   (try clear hb2)
   (try clear hk)
   (try clear hi)
   refine hK.out _ _ trivial (fun hHeld=>?_)
   clear hK K
   refine norm_ (a':=?_) ?_ ?_
   rotate_left
   ·
    show Act.put _ (some 12) _=_
    simp only[Act.put,List.setIfInBounds_toArray,List.set_cons_zero,List.set_cons_succ,i64_w,i32_w]
    rfl
   refine one_ (i:=8) (N:=some 18) M48 rfl rfl (one_of HT_.out Z19) (by decide) (fun K hK=>?_)
   have hcv12:=own_string (P:=Tryz.prog) Tryz.underlying22 Tryz.underlying5 Tryz.underlying9 (Kd.own_of_R HOob.1)
   refine value_ (w1:=?_) (v:=?_) (by rfl) rfl ?_ ?_
   rotate_left 2
   ·
    go_simp
    constructor
    ·
     rfl
    rfl
   clear hcv12
   refine hK.out _ _ trivial (fun hHeld=>?_)
   clear hK K
   refine norm_ (a':=?_) ?_ ?_
   rotate_left
   ·
    show Act.put _ (some 18) _=_
    simp only[Act.put,List.setIfInBounds_toArray,List.set_cons_zero,List.set_cons_succ,i64_w,i32_w]
    rfl
   exact norm_ Z54 (hCont (v643) _ ⟨(Z1 HOob),ZB⟩)
  skip
  have hcv11:=own_string (P:=Tryz.prog) Tryz.underlying22 Tryz.underlying5 Tryz.underlying9 (Kd.own_of_R HOob.1)
  refine value_ (w1:=?_) (v:=?_) (by rfl) rfl ?_ ?_
  rotate_left 2
  ·
   go_simp
   constructor
   ·
    rfl
   rfl
  clear hcv11
  refine hK.out _ _ trivial (fun hHeld=>?_)
  clear hK K
  refine norm_ (a':=?_) ?_ ?_
  rotate_left
  ·
   show Act.put _ (some 18) _=_
   simp only[Act.put,List.setIfInBounds_toArray,List.set_cons_zero,List.set_cons_succ,i64_w,i32_w]
   rfl
  refine one_ (i:=2) (N:=some 12) M48 rfl rfl (one_of HT_.out Z19) (by decide) (fun K hK=>?_)
  refine goes_ Tryz.func106 Z19 rfl #[.int .i64 (wrap64 (Int.tdiv a0 10))] (by rfl) rfl rfl Z18 ?_
  with_reducible refine(ih k (by omega) (wrap64 (Int.tdiv a0 10)) t641 _ A6.1).mono ?_
  rintro e w12 ⟨rfl,hb⟩
  refine⟨_,rfl,?_⟩
  have n0_:=am (Kd.R_below (Z1 HOob) hb)
  have n1_:=bw_ hb
  clear HOob
  clear HB
  have HOob:=n0_
  have HB:=n1_
  clear n0_ n1_
  (try clear hb)
  (try clear hb2)
  (try clear hk)
  (try clear hi)
  refine hK.out _ _ trivial (fun hHeld=>?_)
  clear hK K
  refine norm_ (a':=?_) ?_ ?_
  rotate_left
  ·
   show Act.put _ (some 12) _=_
   simp only[Act.put,List.setIfInBounds_toArray,List.set_cons_zero,List.set_cons_succ,i64_w,i32_w]
   rfl
  exact norm_ Z54 (hCont (v643) _ ⟨(Z1 HOob),ZB⟩)
 rintro v643 w13 ⟨h0_,h1_⟩
 have n0_:Aside0 (Kd.R (Kd.int .u8) 5 w13 w.heap.size (fun _=>True) v643 y_a):=⟨h0_⟩
 have n1_:Aside0 (Below w.heap.size w w13):=⟨h1_⟩
 clear HB
 clear h0_ h1_
 have HOob:=n0_
 have HB:=n1_
 clear n0_ n1_
 have hHeld:=trivial
 refine norm_ (a':=?_) ?_ ?_
 rotate_left
 ·
  simp only[putAll,Act.put,List.setIfInBounds_toArray,List.set_cons_zero,List.set_cons_succ]
  rfl
 refine pury_ 9 19 M50 HT_ ?_
 refine pury_ 10 2 M68 HT_ ?_
 refine done_ (done_of HT_.out Z19) ?_
 try go_wp2
 go_ret
 exact⟨Z6,ZB⟩
def spec_ciNumber.f (k:Nat) (a0:Int):Option (ByteArray):=if a0<0 then((spec_l1Num.f k (wrap64 (-a0))).bind fun t645=>(if 1+t645.size≤9223372036854775807 then(some ((⟨#[45]⟩:ByteArray)++t645))else(none)))else((spec_l1Num.f k a0).bind fun t646=>(some t646))
theorem spec_ciNumber.mono:∀a0 k,LeO (spec_ciNumber.f k a0) (spec_ciNumber.f (k+1) a0):=by
  intro a0 k
  unfold spec_ciNumber.f
  exact mo_
set_option maxHeartbeats 8000000 in
set_option maxRecDepth 100000 in
theorem spec_ciNumber.calls (k:Nat) (a0:Int) (r:ByteArray) (w:World) (h:spec_ciNumber.f k a0=some r):
  Calls Tryz.prog 89 #[.int .i64 a0] w fun e w'=>e= .returned (.string r)∧Below w.heap.size w w':=by
 have HB:=am (Below.refl w.heap.size w)
 have H:=h
 clear h
 unfold spec_ciNumber.f at H
 by_cases c2:a0<0
 rotate_left
 ·
  rw[if_neg c2]at H
  have c2b0:=decide_eq_false c2
  clear c2
  obtain⟨t646,A6,H⟩:=bs_ H
  try dsimp only at H
  obtain rfl:=Option.some.inj H
  go_enter Tryz.func89,Tryz.ntmps89
  go_wp2_with (first|((with_reducible refine gc_ 106 rfl ?_);refine gM_ (some 10) Tryz.func106 (spec_l1Num.calls k a0 t646 _ A6.1) ?_;intro w7 hb;replace HB:=bw_ hb;clear hb))
  go_ret
  exact⟨Z6,ZB⟩
 rw[if_pos c2]at H
 have c2b0:=decide_eq_true c2
 clear c2
 obtain⟨t645,A3,H⟩:=bs_ H
 try dsimp only at H
 obtain⟨c4,H⟩:=ip_ H
 have c4b0:=eq_true c4
 have c4b1:=decide_eq_true c4
 try have c4b2:(9223372036854775807<1+t645.size)=False:=eq_false (Nat.not_lt.2 c4)
 obtain rfl:=Option.some.inj H
 go_enter Tryz.func89,Tryz.ntmps89
 go_wp2_with (first|((with_reducible refine gc_ 106 rfl ?_);refine gM_ (some 7) Tryz.func106 (spec_l1Num.calls k (wrap64 (-a0)) t645 _ A3.1) ?_;intro w5 hb;replace HB:=bw_ hb;clear hb))
 go_ret
 exact⟨Z6,ZB⟩
def spec_ciText.f (k:Nat) (a0_0:Int) (a0_1:Int) (a0_2:Int) (a0_3:Int):Option (ByteArray):=(spec_ciNumber.f k a0_0).bind fun t648=>(if t648.size+1≤9223372036854775807 then((spec_ciNumber.f k a0_1).bind fun t649=>(if(t648++(⟨#[32]⟩:ByteArray)).size+t649.size≤9223372036854775807 then(if((t648++(⟨#[32]⟩:ByteArray))++t649).size+1≤9223372036854775807 then((spec_ciNumber.f k a0_2).bind fun t650=>(if(((t648++(⟨#[32]⟩:ByteArray))++t649)++(⟨#[32]⟩:ByteArray)).size+t650.size≤9223372036854775807 then(if((((t648++(⟨#[32]⟩:ByteArray))++t649)++(⟨#[32]⟩:ByteArray))++t650).size+1≤9223372036854775807 then((spec_ciNumber.f k a0_3).bind fun t651=>(if(((((t648++(⟨#[32]⟩:ByteArray))++t649)++(⟨#[32]⟩:ByteArray))++t650)++(⟨#[32]⟩:ByteArray)).size+t651.size≤9223372036854775807 then(some ((((((t648++(⟨#[32]⟩:ByteArray))++t649)++(⟨#[32]⟩:ByteArray))++t650)++(⟨#[32]⟩:ByteArray))++t651))else(none)))else(none))else(none)))else(none))else(none)))else(none))
theorem spec_ciText.mono:∀a0 a1 a2 a3 k,LeO (spec_ciText.f k a0 a1 a2 a3) (spec_ciText.f (k+1) a0 a1 a2 a3):=by
  intro a0 a1 a2 a3 k
  unfold spec_ciText.f
  exact mo_
def spec_ciText.T1:Bool × List (List Nat × List Nat):=(true,[([],[]),([0],[0]),([1],[1]),([2],[2]),([],[]),([4],[4]),([5,2],[5]),([3,6],[3,6]),([7],[7]),([],[]),([9],[9]),([10,6],[10]),([8,11],[8,11]),([12],[12]),([],[]),([14],[14]),([15,11],[15]),([13,16],[13,16]),([17,16,0,1,2,3,4,5,6,7,8,9,10,11,12,13,14,15,16,17],[17])])
def spec_ciText.B1:List Nat:=[0,1,3,7,0,16,55,127,255,0,512,1655,4095,8191,0,16384,52855,131071,262143]
theorem spec_ciText.tab1:rtab .any (opsOf Tryz.f62 1)=spec_ciText.T1:=by kernel_rfl
theorem spec_ciText.bits1:waitsOk spec_ciText.T1.2 spec_ciText.B1=true:=by kernel_rfl
set_option maxHeartbeats 8000000 in
set_option maxRecDepth 100000 in
theorem spec_ciText.calls (k:Nat) (a0_0:Int) (a0_1:Int) (a0_2:Int) (a0_3:Int) (r:ByteArray) (w:World) (h:spec_ciText.f k a0_0 a0_1 a0_2 a0_3=some r):
  Calls Tryz.prog 62 #[.agg #[.int .i64 a0_0,.int .i64 a0_1,.int .i64 a0_2,.int .i64 a0_3]] w fun e w'=>e= .returned (.string r)∧Below w.heap.size w w':=by
 have hu37:=Tryz.underlying37
 have HB:=am (Below.refl w.heap.size w)
 have H:=h
 clear h
 unfold spec_ciText.f at H
 obtain⟨t648,A2,H⟩:=bs_ H
 try dsimp only at H
 obtain⟨c3,H⟩:=ip_ H
 have c3b0:=eq_true c3
 have c3b1:=decide_eq_true c3
 try have c3b2:(9223372036854775807<t648.size+1)=False:=eq_false (Nat.not_lt.2 c3)
 try have c3b3:(9223372036854775807<t648.size+1)=False:=eq_false (by have h_:=c3;simp only[ByteArray.size_append]at h_;have e_:(⟨#[32]⟩:ByteArray).size=1:=rfl;omega)
 obtain⟨t649,A4,H⟩:=bs_ H
 try dsimp only at H
 obtain⟨c5,H⟩:=ip_ H
 have c5b0:=eq_true c5
 have c5b1:=decide_eq_true c5
 try have c5b2:(9223372036854775807<(t648++(⟨#[32]⟩:ByteArray)).size+t649.size)=False:=eq_false (Nat.not_lt.2 c5)
 try have c5b3:(9223372036854775807<t648.size+1+t649.size)=False:=eq_false (by have h_:=c5;simp only[ByteArray.size_append]at h_;have e_:(⟨#[32]⟩:ByteArray).size=1:=rfl;omega)
 obtain⟨c6,H⟩:=ip_ H
 have c6b0:=eq_true c6
 have c6b1:=decide_eq_true c6
 try have c6b2:(9223372036854775807<((t648++(⟨#[32]⟩:ByteArray))++t649).size+1)=False:=eq_false (Nat.not_lt.2 c6)
 try have c6b3:(9223372036854775807<t648.size+1+t649.size+1)=False:=eq_false (by have h_:=c6;simp only[ByteArray.size_append]at h_;have e_:(⟨#[32]⟩:ByteArray).size=1:=rfl;omega)
 obtain⟨t650,A7,H⟩:=bs_ H
 try dsimp only at H
 obtain⟨c8,H⟩:=ip_ H
 have c8b0:=eq_true c8
 have c8b1:=decide_eq_true c8
 try have c8b2:(9223372036854775807<(((t648++(⟨#[32]⟩:ByteArray))++t649)++(⟨#[32]⟩:ByteArray)).size+t650.size)=False:=eq_false (Nat.not_lt.2 c8)
 try have c8b3:(9223372036854775807<t648.size+1+t649.size+1+t650.size)=False:=eq_false (by have h_:=c8;simp only[ByteArray.size_append]at h_;have e_:(⟨#[32]⟩:ByteArray).size=1:=rfl;omega)
 obtain⟨c9,H⟩:=ip_ H
 have c9b0:=eq_true c9
 have c9b1:=decide_eq_true c9
 try have c9b2:(9223372036854775807<((((t648++(⟨#[32]⟩:ByteArray))++t649)++(⟨#[32]⟩:ByteArray))++t650).size+1)=False:=eq_false (Nat.not_lt.2 c9)
 try have c9b3:(9223372036854775807<t648.size+1+t649.size+1+t650.size+1)=False:=eq_false (by have h_:=c9;simp only[ByteArray.size_append]at h_;have e_:(⟨#[32]⟩:ByteArray).size=1:=rfl;omega)
 obtain⟨t651,A10,H⟩:=bs_ H
 try dsimp only at H
 obtain⟨c11,H⟩:=ip_ H
 have c11b0:=eq_true c11
 have c11b1:=decide_eq_true c11
 try have c11b2:(9223372036854775807<(((((t648++(⟨#[32]⟩:ByteArray))++t649)++(⟨#[32]⟩:ByteArray))++t650)++(⟨#[32]⟩:ByteArray)).size+t651.size)=False:=eq_false (Nat.not_lt.2 c11)
 try have c11b3:(9223372036854775807<t648.size+1+t649.size+1+t650.size+1+t651.size)=False:=eq_false (by have h_:=c11;simp only[ByteArray.size_append]at h_;have e_:(⟨#[32]⟩:ByteArray).size=1:=rfl;omega)
 obtain rfl:=Option.some.inj H
 go_enter Tryz.func62,Tryz.ntmps62
 try go_wp2_with (first|((with_reducible refine gd_ 1 rfl ?_);refine boxN_ 1 #[.int .i64 a0_0,.int .i64 a0_1,.int .i64 a0_2,.int .i64 a0_3] 37 ?_;intro gboa hg w12 hbox hb;have BKoa:=am hbox;have GWoa:=gG_ hg;have GEoa:=gG_ hg;replace HB:=bw_ hb;clear hb hbox hg))
 have n0_:=am (blk_drew BKoa.1)
 have n1_:=am (below_drew1 HB.1)
 clear BKoa
 clear HB
 have BKoa:=n0_
 have HB:=n1_
 clear n0_ n1_
 refine start_ (n:=19) (S:=fun w'=>w'.cell? ⟨gboa,0,none⟩=some (.int .i64 a0_0)∧w'.cell? ⟨gboa,1,none⟩=some (.int .i64 a0_1)∧w'.cell? ⟨gboa,2,none⟩=some (.int .i64 a0_2)∧w'.cell? ⟨gboa,3,none⟩=some (.int .i64 a0_3)) (ds:=[]) M1 Z19 rfl rfl ⟨(blk_cell BKoa.1 0).trans rfl,(blk_cell BKoa.1 1).trans rfl,(blk_cell BKoa.1 2).trans rfl,(blk_cell BKoa.1 3).trans rfl⟩ (fun hHeld=>?_);refine with_tabW spec_ciText.tab1 spec_ciText.bits1 (fun HT_ HW_=>?_)
 generalize w12.drew=w13 at BKoa HB hHeld ⊢
 refine pury_ 0 3 M9 HT_ ?_
 refine pury_ 4 7 #[true,false,false,false,true,false,false,false,false,false,false,false,false,false,false,false,false,false,false] HT_ ?_
 refine pury_ 9 12 #[true,false,false,false,true,false,false,false,false,true,false,false,false,false,false,false,false,false,false] HT_ ?_
 refine pury_ 14 17 #[true,false,false,false,true,false,false,false,false,true,false,false,false,false,true,false,false,false,false] HT_ ?_
 refine taky4_ 1 4 #[true,true,false,false,true,false,false,false,false,true,false,false,false,false,true,false,false,false,false] HT_ HW_ hHeld ?_
 refine taky4_ 5 8 #[true,true,false,false,true,true,false,false,false,true,false,false,false,false,true,false,false,false,false] HT_ HW_ hHeld ?_
 refine taky4_ 10 13 #[true,true,false,false,true,true,false,false,false,true,true,false,false,false,true,false,false,false,false] HT_ HW_ hHeld ?_
 refine taky4_ 15 18 #[true,true,false,false,true,true,false,false,false,true,true,false,false,false,true,true,false,false,false] HT_ HW_ hHeld ?_
 refine one_ (i:=2) (N:=some 5) #[true,true,true,false,true,true,false,false,false,true,true,false,false,false,true,true,false,false,false] rfl rfl (one_of HT_.out Z19) (by decide) (fun K hK=>?_)
 refine goes_ Tryz.func89 Z19 rfl #[.int .i64 a0_0] (by rfl) rfl rfl Z18 ?_
 with_reducible refine(spec_ciNumber.calls k a0_0 t648 _ A2.1).mono ?_
 rintro e w14 ⟨rfl,hb⟩
 refine⟨_,rfl,?_⟩
 have n0_:=bk_ BKoa hb
 have n1_:=bw_ hb
 clear BKoa
 clear HB
 have BKoa:=n0_
 have HB:=n1_
 clear n0_ n1_
 (try clear hb)
 (try clear hb2)
 (try clear hk)
 (try clear hi)
 refine hK.out _ _ ⟨(blk_cell BKoa.1 0).trans rfl,(blk_cell BKoa.1 1).trans rfl,(blk_cell BKoa.1 2).trans rfl,(blk_cell BKoa.1 3).trans rfl⟩ (fun hHeld=>?_)
 clear hK K
 refine norm_ (a':=?_) ?_ ?_
 rotate_left
 ·
  show Act.put _ (some 5) _=_
  simp only[Act.put,List.setIfInBounds_toArray,List.set_cons_zero,List.set_cons_succ,i64_w,i32_w]
  rfl
 refine pury_ 3 6 #[true,true,true,true,true,true,false,false,false,true,true,false,false,false,true,true,false,false,false] HT_ ?_
 refine one_ (i:=6) (N:=some 9) #[true,true,true,true,true,true,true,false,false,true,true,false,false,false,true,true,false,false,false] rfl rfl (one_of HT_.out Z19) (by decide) (fun K hK=>?_)
 refine goes_ Tryz.func89 Z19 rfl #[.int .i64 a0_1] (by rfl) rfl rfl Z18 ?_
 with_reducible refine(spec_ciNumber.calls k a0_1 t649 _ A4.1).mono ?_
 rintro e w15 ⟨rfl,hb⟩
 refine⟨_,rfl,?_⟩
 have n0_:=bk_ BKoa hb
 have n1_:=bw_ hb
 clear BKoa
 clear HB
 have BKoa:=n0_
 have HB:=n1_
 clear n0_ n1_
 (try clear hb)
 (try clear hb2)
 (try clear hk)
 (try clear hi)
 refine hK.out _ _ ⟨(blk_cell BKoa.1 0).trans rfl,(blk_cell BKoa.1 1).trans rfl,(blk_cell BKoa.1 2).trans rfl,(blk_cell BKoa.1 3).trans rfl⟩ (fun hHeld=>?_)
 clear hK K
 refine norm_ (a':=?_) ?_ ?_
 rotate_left
 ·
  show Act.put _ (some 9) _=_
  simp only[Act.put,List.setIfInBounds_toArray,List.set_cons_zero,List.set_cons_succ,i64_w,i32_w]
  rfl
 refine pury_ 7 10 #[true,true,true,true,true,true,true,true,false,true,true,false,false,false,true,true,false,false,false] HT_ ?_
 refine pury_ 8 11 #[true,true,true,true,true,true,true,true,true,true,true,false,false,false,true,true,false,false,false] HT_ ?_
 refine one_ (i:=11) (N:=some 14) #[true,true,true,true,true,true,true,true,true,true,true,true,false,false,true,true,false,false,false] rfl rfl (one_of HT_.out Z19) (by decide) (fun K hK=>?_)
 refine goes_ Tryz.func89 Z19 rfl #[.int .i64 a0_2] (by rfl) rfl rfl Z18 ?_
 with_reducible refine(spec_ciNumber.calls k a0_2 t650 _ A7.1).mono ?_
 rintro e w16 ⟨rfl,hb⟩
 refine⟨_,rfl,?_⟩
 have n0_:=bk_ BKoa hb
 have n1_:=bw_ hb
 clear BKoa
 clear HB
 have BKoa:=n0_
 have HB:=n1_
 clear n0_ n1_
 (try clear hb)
 (try clear hb2)
 (try clear hk)
 (try clear hi)
 refine hK.out _ _ ⟨(blk_cell BKoa.1 0).trans rfl,(blk_cell BKoa.1 1).trans rfl,(blk_cell BKoa.1 2).trans rfl,(blk_cell BKoa.1 3).trans rfl⟩ (fun hHeld=>?_)
 clear hK K
 refine norm_ (a':=?_) ?_ ?_
 rotate_left
 ·
  show Act.put _ (some 14) _=_
  simp only[Act.put,List.setIfInBounds_toArray,List.set_cons_zero,List.set_cons_succ,i64_w,i32_w]
  rfl
 refine pury_ 12 15 #[true,true,true,true,true,true,true,true,true,true,true,true,true,false,true,true,false,false,false] HT_ ?_
 refine pury_ 13 16 M61 HT_ ?_
 refine one_ (i:=16) (N:=some 19) M63 rfl rfl (one_of HT_.out Z19) (by decide) (fun K hK=>?_)
 refine goes_ Tryz.func89 Z19 rfl #[.int .i64 a0_3] (by rfl) rfl rfl Z18 ?_
 with_reducible refine(spec_ciNumber.calls k a0_3 t651 _ A10.1).mono ?_
 rintro e w17 ⟨rfl,hb⟩
 refine⟨_,rfl,?_⟩
 have n0_:=bk_ BKoa hb
 have n1_:=bw_ hb
 clear BKoa
 clear HB
 have BKoa:=n0_
 have HB:=n1_
 clear n0_ n1_
 (try clear hb)
 (try clear hb2)
 (try clear hk)
 (try clear hi)
 refine hK.out _ _ ⟨(blk_cell BKoa.1 0).trans rfl,(blk_cell BKoa.1 1).trans rfl,(blk_cell BKoa.1 2).trans rfl,(blk_cell BKoa.1 3).trans rfl⟩ (fun hHeld=>?_)
 clear hK K
 refine norm_ (a':=?_) ?_ ?_
 rotate_left
 ·
  show Act.put _ (some 19) _=_
  simp only[Act.put,List.setIfInBounds_toArray,List.set_cons_zero,List.set_cons_succ,i64_w,i32_w]
  rfl
 refine pury_ 17 20 M64 HT_ ?_
 refine pury_ 18 2 M65 HT_ ?_
 refine done_ (done_of HT_.out Z19) ?_
 try go_wp2
 go_ret
 exact⟨Z6,ZB⟩
def spec_CircleText.f (k:Nat) (a0_0:Int) (a0_1:Int) (a0_2:Int) (a0_3:Int):Option (ByteArray × Bool):=(spec_ciGood.f k a0_0 a0_1 a0_2 a0_3).bind fun t653=>(if t653=true then((spec_ciText.f k a0_0 a0_1 a0_2 a0_3).bind fun t654=>(some (t654,true)))else(some ((⟨#[]⟩:ByteArray),false)))
theorem spec_CircleText.mono:∀a0 a1 a2 a3 k,LeO (spec_CircleText.f k a0 a1 a2 a3) (spec_CircleText.f (k+1) a0 a1 a2 a3):=by
  intro a0 a1 a2 a3 k
  unfold spec_CircleText.f
  exact mo_
set_option maxHeartbeats 8000000 in
set_option maxRecDepth 100000 in
theorem spec_CircleText.calls (k:Nat) (a0_0:Int) (a0_1:Int) (a0_2:Int) (a0_3:Int) (r1:ByteArray) (r2:Bool) (w:World) (h:spec_CircleText.f k a0_0 a0_1 a0_2 a0_3=some (r1,r2)):
  Calls Tryz.prog 23 #[.agg #[.int .i64 a0_0,.int .i64 a0_1,.int .i64 a0_2,.int .i64 a0_3]] w fun e w'=>e= .returned (.tuple #[.string r1,.bool r2])∧Below w.heap.size w w':=by
 have hu37:=Tryz.underlying37
 have HB:=am (Below.refl w.heap.size w)
 have H:=h
 clear h
 unfold spec_CircleText.f at H
 obtain⟨t653,A2,H⟩:=bs_ H
 try dsimp only at H
 by_cases c3:t653=true
 rotate_left
 ·
  replace c3:=Bool.eq_false_iff.mpr c3
  subst c3
  rw[if_neg (show¬(false=true) by decide)]at H
  simp only[Option.some.injEq,Prod.mk.injEq]at H
  obtain⟨rfl,rfl⟩:=H
  go_enter Tryz.func23,Tryz.ntmps23
  go_wp2_with (first|((with_reducible refine gd_ 1 rfl ?_);refine boxN_ 1 #[.int .i64 a0_0,.int .i64 a0_1,.int .i64 a0_2,.int .i64 a0_3] 37 ?_;intro gboa hg w10 hbox hb;have BKoa:=am hbox;have GWoa:=gG_ hg;have GEoa:=gG_ hg;replace HB:=bw_ hb;clear hb hbox hg;obtain⟨_,_,_,_,_,_,_,_⟩:=cz4_ BKoa)|((with_reducible refine gc_ 47 rfl ?_);refine gM_ (some 5) Tryz.func47 (spec_ciGood.calls k a0_0 a0_1 a0_2 a0_3 false _ A2.1) ?_;intro w12 hb;replace BKoa:=bk_ BKoa hb;replace HB:=bw_ hb;clear hb))
  go_ret2
  exact⟨Z6,ZB⟩
 subst c3
 rw[if_pos rfl]at H
 obtain⟨t654,A4,H⟩:=bs_ H
 try dsimp only at H
 simp only[Option.some.injEq,Prod.mk.injEq]at H
 obtain⟨rfl,rfl⟩:=H
 go_enter Tryz.func23,Tryz.ntmps23
 go_wp2_with (first|((with_reducible refine gd_ 1 rfl ?_);refine boxN_ 1 #[.int .i64 a0_0,.int .i64 a0_1,.int .i64 a0_2,.int .i64 a0_3] 37 ?_;intro gboa hg w5 hbox hb;have BKoa:=am hbox;have GWoa:=gG_ hg;have GEoa:=gG_ hg;replace HB:=bw_ hb;clear hb hbox hg;obtain⟨_,_,_,_,_,_,_,_⟩:=cz4_ BKoa)|((with_reducible refine gc_ 47 rfl ?_);refine gM_ (some 5) Tryz.func47 (spec_ciGood.calls k a0_0 a0_1 a0_2 a0_3 true _ A2.1) ?_;intro w7 hb;replace BKoa:=bk_ BKoa hb;replace HB:=bw_ hb;clear hb;obtain⟨_,_,_,_,_,_,_,_⟩:=cz4_ BKoa)|((with_reducible refine gc_ 62 rfl ?_);refine gM_ (some 8) Tryz.func62 (spec_ciText.calls k a0_0 a0_1 a0_2 a0_3 t654 _ A4.1) ?_;intro w9 hb;replace BKoa:=bk_ BKoa hb;replace HB:=bw_ hb;clear hb))
 go_ret2
 exact⟨Z6,ZB⟩
def Tryz.lays147_ren:Go.Shelf.Ren:=⟨fun|147=>63|221=>90|268=>107|138=>108|143=>109|195=>132|197=>133|218=>134|219=>135|260=>153|217=>154|225=>155|224=>156|267=>157|266=>167|314=>168|n=>n,fun|9=>9|3=>3|31=>86|4=>4|0=>0|105=>147|21=>21|5=>5|46=>118|119=>182|139=>185|138=>184|146=>186|51=>143|n=>n,fun|1=>2|3=>4|4=>5|n=>n⟩
theorem Tryz.lays147:Go.Proofs.Lays.n147 Tryz.prog Tryz.lays147_ren:={
  mixed:=by kernel_rfl
  f138:=Tryz.func108.trans (congrArg some Z19)
  f143:=Tryz.func109.trans (congrArg some Z19)
  f147:=Tryz.func63.trans (congrArg some Z19)
  f195:=Tryz.func132.trans (congrArg some Z19)
  f197:=Tryz.func133.trans (congrArg some Z19)
  f217:=Tryz.func154.trans (congrArg some Z19)
  f218:=Tryz.func134.trans (congrArg some Z19)
  f219:=Tryz.func135.trans (congrArg some Z19)
  f221:=Tryz.func90.trans (congrArg some Z19)
  f224:=Tryz.func156.trans (congrArg some Z19)
  f225:=Tryz.func155.trans (congrArg some Z19)
  f260:=Tryz.func153.trans (congrArg some Z19)
  f266:=Tryz.func167.trans (congrArg some Z19)
  f267:=Tryz.func157.trans (congrArg some Z19)
  f268:=Tryz.func107.trans (congrArg some Z19)
  f314:=Tryz.func168.trans (congrArg some Z19)
  t0:=Tryz.underlying0
  a0:=Tryz.isAgg0
  z0:=Tryz.sizeOf0
  v0:=Tryz.zeroValue0
  t3:=Tryz.underlying3
  a3:=Tryz.isAgg3
  z3:=Tryz.sizeOf3
  v3:=Tryz.zeroValue3
  t4:=Tryz.underlying4
  a4:=Tryz.isAgg4
  z4:=Tryz.sizeOf4
  v4:=Tryz.zeroValue4
  t5:=Tryz.underlying5
  a5:=Tryz.isAgg5
  z5:=Tryz.sizeOf5
  v5:=Tryz.zeroValue5
  t9:=Tryz.underlying9
  a9:=Tryz.isAgg9
  z9:=Tryz.sizeOf9
  v9:=Tryz.zeroValue9
  t21:=Tryz.underlying21
  a21:=Tryz.isAgg21
  z21:=Tryz.sizeOf21
  v21:=Tryz.zeroValue21
  t31:=Tryz.underlying86
  a31:=Tryz.isAgg86
  z31:=Tryz.sizeOf86
  v31:=Tryz.zeroValue86
  t46:=Tryz.underlying118
  a46:=Tryz.isAgg118
  z46:=Tryz.sizeOf118
  v46:=Tryz.zeroValue118
  t51:=Tryz.underlying143
  a51:=Tryz.isAgg143
  z51:=Tryz.sizeOf143
  v51:=Tryz.zeroValue143
  t105:=Tryz.underlying147
  a105:=Tryz.isAgg147
  z105:=Tryz.sizeOf147
  v105:=Tryz.zeroValue147
  t119:=Tryz.underlying182
  a119:=Tryz.isAgg182
  z119:=Tryz.sizeOf182
  t138:=Tryz.underlying184
  a138:=Tryz.isAgg184
  z138:=Tryz.sizeOf184
  v138:=Tryz.zeroValue184
  t139:=Tryz.underlying185
  a139:=Tryz.isAgg185
  z139:=Tryz.sizeOf185
  v139:=Tryz.zeroValue185
  t146:=Tryz.underlying186
  a146:=Tryz.isAgg186
  z146:=Tryz.sizeOf186
  v146:=Tryz.zeroValue186
  g1:=by kernel_rfl
  g3:=by kernel_rfl
  g4:=by kernel_rfl}
open Go.RowKit Go.Lib in
theorem Tryz.strings_SplitN (s sep:ByteArray) (n:Nat) (m:Int) (w:World) (hs:s.size<4294967281) (hm:w.cell? ⟨2,0,none⟩=some (.int .i64 m)) (h1:1≤sep.size) (hn:1≤n) (hn63:n≤9223372036854775807):
    Calls Tryz.prog 63 #[.string s,.string sep,.int .i64 n] w fun e w'=>
      e= .returned (.slice (some ⟨w.heap.size,0,none⟩) (Lib.splitB sep 0 (min n (s.size+1)-1) s).length (min n (s.size+1)))∧w'=w.alloc (.cells (Lib.cellsOf (Lib.splitB sep 0 (min n (s.size+1)-1) s) (min n (s.size+1))) 9):=Any.strings_SplitN Tryz.lays147 Z19 s sep n m w hs hm h1 hn hn63
def Vars (w:World):Prop:=(∃m,w.var? Tryz.prog "internal/bytealg.MaxLen" =some #[.int .i64 m])∧(∃tp p,w.var? Tryz.prog "strconv.ErrSyntax" =some #[.iface tp p])∧(∃tp p,w.var? Tryz.prog "strconv.ErrRange" =some #[.iface tp p])
theorem var_below {n:String} {c:Array Value} {b:Nat} {w w':World} (h:w.var? Tryz.prog n=some c) (hb:Below b w w') (hw:w.heap.size≤b):w'.var? Tryz.prog n=some c:=by
  unfold World.var? at h ⊢
  cases hg:Tryz.prog.globalNamed n with
  |none=>rw[hg]at h;cases h
  |some g=>
    rw[hg]at h
    simp only[Option.bind_some]at h ⊢
    have hlt:g<w.heap.size:=by
      rcases Nat.lt_or_ge g w.heap.size with h'|h'
      · exact h'
      · rw[Array.getElem?_eq_none h']at h;cases h
    rw[hb.block g (Nat.lt_of_lt_of_le hlt hw)]
    exact h
theorem Vars.below {b:Nat} {w w':World} (h:Vars w) (hb:Below b w w') (hw:w.heap.size≤b):Vars w':=by
  obtain⟨⟨m,h1⟩,⟨t2,p2,h2⟩,⟨t3,p3,h3⟩⟩:=h
  exact⟨⟨m,var_below h1 hb hw⟩,⟨t2,p2,var_below h2 hb hw⟩,⟨t3,p3,var_below h3 hb hw⟩⟩
def strings_SplitN.f (a0:ByteArray) (a1:ByteArray) (a2:Int):Option (List ByteArray):=if a0.size<4294967281 then(if 1≤a1.size then(if 1≤a2 then(if a2≤1000 then some (Lib.splitB a1 0 (min a2.toNat (a0.size+1)-1) a0)else none)else none)else none)else none
theorem strings_SplitN.calls (a0:ByteArray) (a1:ByteArray) (a2:Int) (r:List ByteArray) (w:World) (hvars:Vars w) (h:strings_SplitN.f a0 a1 a2=some r):
  Calls Tryz.prog 63 #[.string a0,.string a1,.int .i64 a2] w fun e w'=>∃v0_:Value,e= .returned (v0_)∧Kd.R Kd.string 9 w' w.heap.size (fun _=>True) v0_ r∧Below w.heap.size w w':=by
 unfold strings_SplitN.f at h
 by_cases h0:a0.size<4294967281
 rotate_left
 ·
  rw[if_neg h0]at h;cases h
 rw[if_pos h0]at h
 by_cases h1:1≤a1.size
 rotate_left
 ·
  rw[if_neg h1]at h;cases h
 rw[if_pos h1]at h
 by_cases h2:1≤a2
 rotate_left
 ·
  rw[if_neg h2]at h;cases h
 rw[if_pos h2]at h
 by_cases h3:a2≤1000
 rotate_left
 ·
  rw[if_neg h3]at h;cases h
 rw[if_pos h3]at h
 obtain rfl:=Option.some.inj h
 obtain⟨⟨m,hm⟩,_,_⟩:=hvars
 have hc:=Tryz.strings_SplitN a0 a1 a2.toNat m w h0 (by refine(World.var?_cell (n:= "internal/bytealg.MaxLen") ?_ hm 0).trans rfl;kernel_rfl) h1 (by omega) (by omega)
 rw[Int.toNat_of_nonneg (by omega)]at hc
 refine hc.mono ?_
 rintro e w' ⟨rfl,rfl⟩
 have hle:(Lib.splitB a1 0 (min a2.toNat (a0.size+1)-1) a0).length≤min a2.toNat (a0.size+1):=by
  have:=Lib.splitB_length_le a1 0 (min a2.toNat (a0.size+1)-1) a0
  omega
 refine⟨_,rfl,?_,?_⟩
 rotate_left
 ·
  exact below_alloc (Below.refl _ _) _
 refine Kd.R_of_own (enc:=Value.string) (h1:=fun _=>rfl) ?_ (fun _ _=>trivial)
 refine⟨(by simp[encs]),.inr ⟨w.heap.size,_,_,rfl,Nat.le_refl _,Array.getElem?_push_size,hle,?_,?_,?_⟩⟩
 ·
  unfold maxLen;omega
 ·
  rw[Lib.cellsOf_size hle,Nat.mul_one]
 simp[Lib.cellsOf,encs]
def Tryz.laysC172_ren:Go.Shelf.Ren:=⟨fun|172=>64|244=>91|245=>92|247=>110|279=>111|280=>112|281=>113|282=>114|287=>136|316=>137|171=>87|205=>138|321=>158|322=>159|243=>102|246=>129|283=>147|284=>148|285=>149|286=>150|129=>128|317=>163|318=>164|319=>165|320=>166|337=>169|338=>170|n=>n,fun|9=>9|3=>3|75=>89|76=>90|4=>4|5=>5|167=>127|37=>22|0=>0|85=>128|2=>2|168=>130|53=>56|175=>150|46=>118|210=>154|127=>146|145=>174|143=>172|21=>21|171=>163|173=>165|212=>180|51=>143|20=>20|213=>181|232=>188|233=>189|80=>124|n=>n,fun|15=>0|16=>1|17=>3|18=>6|19=>7|n=>n⟩
theorem Tryz.laysC172:Go.Proofs.LaysC.n172 Tryz.prog Tryz.laysC172_ren:={
  mixed:=by kernel_rfl
  f129:=Tryz.func128.trans (congrArg some Z19)
  f171:=Tryz.func87.trans (congrArg some Z19)
  f172:=Tryz.func64.trans (congrArg some Z19)
  f205:=Tryz.func138.trans (congrArg some Z19)
  f243:=Tryz.func102.trans (congrArg some Z19)
  f244:=Tryz.func91.trans (congrArg some Z19)
  f245:=Tryz.func92.trans (congrArg some Z19)
  f246:=Tryz.func129.trans (congrArg some Z19)
  f247:=Tryz.func110.trans (congrArg some Z19)
  f279:=Tryz.func111.trans (congrArg some Z19)
  f280:=Tryz.func112.trans (congrArg some Z19)
  f281:=Tryz.func113.trans (congrArg some Z19)
  f282:=Tryz.func114.trans (congrArg some Z19)
  f283:=Tryz.func147.trans (congrArg some Z19)
  f284:=Tryz.func148.trans (congrArg some Z19)
  f285:=Tryz.func149.trans (congrArg some Z19)
  f286:=Tryz.func150.trans (congrArg some Z19)
  f287:=Tryz.func136.trans (congrArg some Z19)
  f316:=Tryz.func137.trans (congrArg some Z19)
  f317:=Tryz.func163.trans (congrArg some Z19)
  f318:=Tryz.func164.trans (congrArg some Z19)
  f319:=Tryz.func165.trans (congrArg some Z19)
  f320:=Tryz.func166.trans (congrArg some Z19)
  f321:=Tryz.func158.trans (congrArg some Z19)
  f322:=Tryz.func159.trans (congrArg some Z19)
  f337:=Tryz.func169.trans (congrArg some Z19)
  f338:=Tryz.func170.trans (congrArg some Z19)
  t0:=Tryz.underlying0
  a0:=Tryz.isAgg0
  z0:=Tryz.sizeOf0
  v0:=Tryz.zeroValue0
  t2:=Tryz.underlying2
  a2:=Tryz.isAgg2
  z2:=Tryz.sizeOf2
  v2:=Tryz.zeroValue2
  t3:=Tryz.underlying3
  a3:=Tryz.isAgg3
  z3:=Tryz.sizeOf3
  v3:=Tryz.zeroValue3
  t4:=Tryz.underlying4
  a4:=Tryz.isAgg4
  z4:=Tryz.sizeOf4
  v4:=Tryz.zeroValue4
  t5:=Tryz.underlying5
  a5:=Tryz.isAgg5
  z5:=Tryz.sizeOf5
  v5:=Tryz.zeroValue5
  t9:=Tryz.underlying9
  a9:=Tryz.isAgg9
  z9:=Tryz.sizeOf9
  v9:=Tryz.zeroValue9
  t20:=Tryz.underlying20
  a20:=Tryz.isAgg20
  z20:=Tryz.sizeOf20
  v20:=Tryz.zeroValue20
  t21:=Tryz.underlying21
  a21:=Tryz.isAgg21
  z21:=Tryz.sizeOf21
  v21:=Tryz.zeroValue21
  t37:=Tryz.underlying22
  a37:=Tryz.isAgg22
  z37:=Tryz.sizeOf22
  v37:=Tryz.zeroValue22
  t46:=Tryz.underlying118
  a46:=Tryz.isAgg118
  z46:=Tryz.sizeOf118
  v46:=Tryz.zeroValue118
  t51:=Tryz.underlying143
  a51:=Tryz.isAgg143
  z51:=Tryz.sizeOf143
  v51:=Tryz.zeroValue143
  t53:=Tryz.underlying56
  a53:=Tryz.isAgg56
  z53:=Tryz.sizeOf56
  v53:=Tryz.zeroValue56
  t75:=Tryz.underlying89
  a75:=Tryz.isAgg89
  z75:=Tryz.sizeOf89
  v75:=Tryz.zeroValue89
  t76:=Tryz.underlying90
  a76:=Tryz.isAgg90
  z76:=Tryz.sizeOf90
  v76:=Tryz.zeroValue90
  t85:=Tryz.underlying128
  a85:=Tryz.isAgg128
  z85:=Tryz.sizeOf128
  v85:=Tryz.zeroValue128
  t127:=Tryz.underlying146
  a127:=Tryz.isAgg146
  z127:=Tryz.sizeOf146
  v127:=Tryz.zeroValue146
  t143:=Tryz.underlying172
  a143:=Tryz.isAgg172
  z143:=Tryz.sizeOf172
  v143:=Tryz.zeroValue172
  t145:=Tryz.underlying174
  a145:=Tryz.isAgg174
  z145:=Tryz.sizeOf174
  v145:=Tryz.zeroValue174
  t167:=Tryz.underlying127
  a167:=Tryz.isAgg127
  z167:=Tryz.sizeOf127
  v167:=Tryz.zeroValue127
  t168:=Tryz.underlying130
  a168:=Tryz.isAgg130
  z168:=Tryz.sizeOf130
  v168:=Tryz.zeroValue130
  t171:=Tryz.underlying163
  a171:=Tryz.isAgg163
  z171:=Tryz.sizeOf163
  v171:=Tryz.zeroValue163
  t173:=Tryz.underlying165
  a173:=Tryz.isAgg165
  z173:=Tryz.sizeOf165
  v173:=Tryz.zeroValue165
  t175:=Tryz.underlying150
  a175:=Tryz.isAgg150
  z175:=Tryz.sizeOf150
  v175:=Tryz.zeroValue150
  t210:=Tryz.underlying154
  a210:=Tryz.isAgg154
  z210:=Tryz.sizeOf154
  v210:=Tryz.zeroValue154
  t212:=Tryz.underlying180
  a212:=Tryz.isAgg180
  z212:=Tryz.sizeOf180
  v212:=Tryz.zeroValue180
  t213:=Tryz.underlying181
  a213:=Tryz.isAgg181
  z213:=Tryz.sizeOf181
  t232:=Tryz.underlying188
  a232:=Tryz.isAgg188
  z232:=Tryz.sizeOf188
  v232:=Tryz.zeroValue188
  t233:=Tryz.underlying189
  a233:=Tryz.isAgg189
  z233:=Tryz.sizeOf189
  v233:=Tryz.zeroValue189
  g15:=by kernel_rfl
  g16:=by kernel_rfl
  g17:=by kernel_rfl
  g18:=by kernel_rfl
  g19:=by kernel_rfl
  t80:=Tryz.underlying124
  a80:=Tryz.isAgg124
  z80:=Tryz.sizeOf124
  v80:=Tryz.zeroValue124
  i0:=by kernel_rfl
  i2:=by kernel_rfl
  i3:=by kernel_rfl
  i4:=by kernel_rfl
  i5:=by kernel_rfl
  i9:=by kernel_rfl
  i20:=by kernel_rfl
  i21:=by kernel_rfl
  i37:=by kernel_rfl
  i46:=by kernel_rfl
  i51:=by kernel_rfl
  i53:=by kernel_rfl
  i75:=by kernel_rfl
  i76:=by kernel_rfl
  i80:=by kernel_rfl
  i85:=by kernel_rfl
  i127:=by kernel_rfl
  i143:=by kernel_rfl
  i145:=by kernel_rfl
  i167:=by kernel_rfl
  i168:=by kernel_rfl
  i171:=by kernel_rfl
  i173:=by kernel_rfl
  i175:=by kernel_rfl
  i210:=by kernel_rfl
  i212:=by kernel_rfl
  i232:=by kernel_rfl
  i233:=by kernel_rfl
  m15:=by kernel_rfl
  m16:=by kernel_rfl
  m17:=by kernel_rfl
  m18:=by kernel_rfl
  m19:=by kernel_rfl
  c0:=by kernel_rfl
  c2:=by kernel_rfl
  c3:=by kernel_rfl
  c4:=by kernel_rfl
  c5:=by kernel_rfl
  c9:=by kernel_rfl
  c20:=by kernel_rfl
  c21:=by kernel_rfl
  c37:=by kernel_rfl
  c46:=by kernel_rfl
  c51:=by kernel_rfl
  c53:=by kernel_rfl
  c75:=by kernel_rfl
  c76:=by kernel_rfl
  c80:=by kernel_rfl
  c85:=by kernel_rfl
  c127:=by kernel_rfl
  c143:=by kernel_rfl
  c145:=by kernel_rfl
  c167:=by kernel_rfl
  c168:=by kernel_rfl
  c171:=by kernel_rfl
  c173:=by kernel_rfl
  c175:=by kernel_rfl
  c210:=by kernel_rfl
  c212:=by kernel_rfl
  c213:=by kernel_rfl
  c232:=by kernel_rfl
  c233:=by kernel_rfl}
open Go.RowKit in
theorem Tryz.strconv_Atoi_ok (s:ByteArray) (hmax:s.size≤9223372036854775806) (v:Int) (h:Lib.atoiAll s.data.toList= .ok v) (w:World):
    Calls Tryz.prog 64 #[.string s] w fun e w'=>e= .returned (.tuple #[.int .i64 v,.nilIface])∧(w'=w∨∃t,w'=Lib.bytesWorld w 5 t):=Any.strconv_Atoi_ok Tryz.laysC172 s hmax v h w
open Go.RowKit in
theorem Tryz.strconv_Atoi_range_var (s:ByteArray) (hlim:s.size≤281474976710656) (h:Lib.atoiAll s.data.toList= .range) (tp:TypeId) (p:Value) (w:World) (hvar:w.var? Tryz.prog "strconv.ErrRange" =some #[.iface tp p]):
    Calls Tryz.prog 64 #[.string s] w fun e w'=>∃N,e= .returned (.tuple #[.int .i64 (Lib.atoiSat s.data.toList),.iface 130 (.pointer (some ⟨N,0,none⟩))])∧w.heap.size≤N∧w'.heap[N]?=some (.cells #[.string ⟨#[65,116,111,105]⟩,.string s,.iface tp p] 154 (0,0))∧Below w.heap.size w w':=Any.strconv_Atoi_range_var Tryz.laysC172 s hlim h tp p w hvar
def errV (v:Value):Option Int→Prop
  |none=>v= .nilIface
  |some _=>∃tp p,v= .iface tp p
def strconv_Atoi.f (a0:ByteArray):Option (Int × Option Int):=if a0.size≤281474976710656 then(match Lib.atoiAll a0.data.toList with| .ok v=>some (v,none) | .range => some (Lib.atoiSat a0.data.toList,some 1) | _ => some (0,some 2))else none
theorem strconv_Atoi.calls (a0:ByteArray) (r1:Int) (r2:Option Int) (w:World) (hvars:Vars w) (h:strconv_Atoi.f a0=some (r1,r2)):
  Calls Tryz.prog 64 #[.string a0] w fun e w'=>∃v_:Value,e= .returned (.tuple #[.int .i64 r1,v_])∧errV v_ r2∧Below w.heap.size w w':=by
 unfold strconv_Atoi.f at h
 by_cases h0:a0.size≤281474976710656
 rotate_left
 ·
  rw[if_neg h0]at h;cases h
 rw[if_pos h0]at h
 obtain⟨_,⟨t2,p2,h2⟩,⟨t3,p3,h3⟩⟩:=hvars
 cases hend:Lib.atoiAll a0.data.toList with
 |ok v=>
  rw[hend]at h
  simp only[Option.some.injEq,Prod.mk.injEq]at h
  obtain⟨rfl,rfl⟩:=h
  refine(Tryz.strconv_Atoi_ok a0 (by omega) v hend w).mono ?_
  rintro e w' ⟨rfl,hw⟩
  refine⟨_,rfl,rfl,?_⟩
  rcases hw with rfl|⟨t,rfl⟩
  ·
   exact Below.refl _ _
  exact Lib.bytesWorld_below _ _ _
 |range=>
  rw[hend]at h
  simp only[Option.some.injEq,Prod.mk.injEq]at h
  obtain⟨rfl,rfl⟩:=h
  refine(Tryz.strconv_Atoi_range_var a0 h0 hend t3 p3 w h3).mono ?_
  rintro e w' ⟨N,rfl,_,_,hb⟩
  exact⟨_,rfl,⟨_,_,rfl⟩,hb⟩
 |_=>
  rw[hend]at h
  simp only[Option.some.injEq,Prod.mk.injEq]at h
  obtain⟨rfl,rfl⟩:=h
  refine(Go.Proofs.Any.strconv_Atoi_syntax_var Tryz.laysC172 a0 h0 hend t2 p2 w h2).mono ?_
  rintro e w' ⟨N,rfl,_,_,hb⟩
  exact⟨_,rfl,⟨_,_,rfl⟩,hb⟩
def impl_ParseCircle.l0:Nat→ByteArray→List Int→List ByteArray→Int→Int→Option (Int × Int × Int × Int × Bool)
  |0,_,_,_,_,_=>none
  |k+1,x0,x4,x12,x13,x14=>if x14<x13 then(if 0≤x14 then(if x14<(x12.length:Int)then((strconv_Atoi.f (rdOf ByteArray.empty x12 x14)).bind fun bt663=>(if bt663.2.isNone=true then(if x4.length<17592186044416 then(impl_ParseCircle.l0 k x0 (x4++[bt663.1]) x12 x13 (wrap64 (x14+1)))else(none))else(some (0,0,0,0,false))))else(none))else(none))else(if(x4.length:Int)=4 then(if 0<(x4.length:Int)then(if 1<(x4.length:Int)then(if 2<(x4.length:Int)then(if 3<(x4.length:Int)then((impl_IsCircle.f (rd x4 0) (rd x4 1) (rd x4 2) (rd x4 3)).bind fun t674=>(if t674=true then((impl_words.f k x4).bind fun t675=>(if t675.toList=x0.toList then(some (rd x4 0,rd x4 1,rd x4 2,rd x4 3,true))else(some (0,0,0,0,false))))else(some (0,0,0,0,false))))else(none))else(none))else(none))else(none))else(some (0,0,0,0,false)))
def impl_ParseCircle.f (k:Nat) (a0:ByteArray):Option (Int × Int × Int × Int × Bool):=(strings_SplitN.f a0 (⟨#[32]⟩:ByteArray) 5).bind fun t659=>(impl_ParseCircle.l0 k a0 (([]:List Int)) t659 (t659.length:Int) 0)
theorem impl_ParseCircle.mono_l:∀k,(∀y0 y1 y2 y3 y4,LeO (impl_ParseCircle.l0 k y0 y1 y2 y3 y4) (impl_ParseCircle.l0 (k+1) y0 y1 y2 y3 y4))
  |0=>fun _ _ _ _ _ r h=>by simp[impl_ParseCircle.l0]at h
  |k+1=>by
    have ih0:=impl_ParseCircle.mono_l k
    · intro y0 y1 y2 y3 y4
      unfold impl_ParseCircle.l0
      exact mo_
theorem impl_ParseCircle.mono:∀a0 k,LeO (impl_ParseCircle.f k a0) (impl_ParseCircle.f (k+1) a0):=by
  intro a0 k
  have ih0:=impl_ParseCircle.mono_l k
  unfold impl_ParseCircle.f
  exact mo_
def impl_ParseCircle.T12:Bool × List (List Nat × List Nat):=(true,[([],[]),([0],[0]),([1],[1]),([],[]),([3],[3]),([4],[4]),([],[]),([6],[6]),([7],[7]),([],[]),([9],[9]),([10],[10]),([2,5,8,11],[2,5,8,11]),([],[]),([13,12,0,1,2,3,4,5,6,7,8,9,10,11,12,13],[12,13])])
def impl_ParseCircle.B12:List Nat:=[0,1,3,0,8,24,0,64,192,0,512,1536,4095,0,16383]
theorem impl_ParseCircle.tab12:rtab .any (opsOf Tryz.f24 12)=impl_ParseCircle.T12:=by kernel_rfl
theorem impl_ParseCircle.bits12:waitsOk impl_ParseCircle.T12.2 impl_ParseCircle.B12=true:=by kernel_rfl
set_option maxHeartbeats 8000000 in
set_option maxRecDepth 100000 in
theorem impl_ParseCircle.calls (k:Nat) (a0:ByteArray) (r1:Int) (r2:Int) (r3:Int) (r4:Int) (r5:Bool) (w:World) (htabs:Tabs w) (hvars:Vars w) (h:impl_ParseCircle.f k a0=some (r1,r2,r3,r4,r5)):
  Calls Tryz.prog 24 #[.string a0] w fun e w'=>e= .returned (.tuple #[.agg #[.int .i64 r1,.int .i64 r2,.int .i64 r3,.int .i64 r4],.bool r5])∧Below w.heap.size w w':=by
 have hu37:=Tryz.underlying37
 have hu89:=Tryz.underlying89
 have HB:=am (Below.refl w.heap.size w)
 have HTABS:=am htabs
 have HVARS:=am hvars
 clear htabs hvars
 have H:=h
 clear h
 unfold impl_ParseCircle.f at H
 obtain⟨y_a,hy_a⟩:∃y_:List Int,y_=(([]:List Int)):=⟨_,rfl⟩
 replace H:((strings_SplitN.f a0 (⟨#[32]⟩:ByteArray) 5).bind fun t659=>(impl_ParseCircle.l0 k a0 y_a t659 (t659.length:Int) 0))=some (r1,r2,r3,r4,r5):=Z8
 have Ny_a:=am hy_a
 clear hy_a
 obtain⟨t659,A2,H⟩:=bs_ H
 try dsimp only at H
 have H':=am H
 clear H
 go_enter Tryz.func24,Tryz.ntmps24
 go_wp2_with (first|((with_reducible refine gd_ 2 rfl ?_);refine boxN_ 2 #[.int .i64 0,.int .i64 0,.int .i64 0,.int .i64 0] 37 ?_;intro gboa hg w3 hbox hb;have BKoa:=am hbox;have GWoa:=gG_ hg;have GEoa:=gG_ hg;replace HB:=bw_ hb;clear hb hbox hg)|((with_reducible refine gd_ 10 rfl ?_);refine Kd.R_lit (Kd.int .i64) _ 3 ?hg (N:=10) ?hd (xs:=([]:List Int)) (inner:=[]) (ok:=fun _=>True) (okp:=fun _=>True) ?hr ?hp (fun _ hk=>hk) trivial (Below.refl _ _) (Nat.le_refl _) (by simp) ?_;(case hd=>rfl);(case hg=>rfl);(case hr=>first|(go_simp;done)|(go_simp;rfl));(case hp=>exact(Reps.none _ _));intro v657 w4 ho5 hb hg_ hnew_;clear hg_ hnew_;(first|rw[←Ny_a.1]at ho5|(simp only[Int.reduceToNat]at ho5;rw[←Ny_a.1]at ho5));have HOoc:=am (Kd.R_lower ho5 zs_);replace BKoa:=bk_ BKoa hb;replace HB:=bw_ hb;clear hb ho5)|((with_reducible refine gc_ 63 rfl ?_);refine gE_ (some 12) Tryz.func63 (strings_SplitN.calls a0 (⟨#[32]⟩:ByteArray) 5 t659 _ ?vars A2.1) ?_;(case vars=>exact Vars.below HVARS.out ZB (Nat.le_refl _));rintro v660 w6 ⟨ho0,hb⟩;replace HOoc:=am (Kd.R_below (Z1 HOoc) hb);have HOod:=am (Kd.R_lower ho0 zs_);replace BKoa:=bk_ BKoa hb;replace HB:=bw_ hb;clear hb;(try clear ho0);obtain⟨Ao7,co7,eo7⟩:=Kd.R_slice HOod.1;subst eo7))
 go_loopg [4,14] k (fun kq v4 v14 w'=>∃(x4_1:List Int) (x14_1:Int) (x656000_1:Int) (x656001_1:Int) (x656002_1:Int) (x656003_1:Int),v14= .int .i64 x14_1∧Aside0 (impl_ParseCircle.l0 kq a0 x4_1 t659 (t659.length:Int) x14_1=some (r1,r2,r3,r4,r5))∧Aside0 (kq≤k)∧Aside0 (Kd.R (Kd.int .i64) 3 w' w.heap.size (fun _=>True) v4 x4_1)∧Aside0 (Kd.R Kd.string 9 w' w.heap.size (fun _=>True) (.slice Ao7 t659.length co7) t659)∧Aside0 (w'.heap[gboa]?=some (.cells #[.int .i64 x656000_1,.int .i64 x656001_1,.int .i64 x656002_1,.int .i64 x656003_1] 37 (0,0)))∧Aside0 (Below w.heap.size w w'))
 case atStart=>exact⟨(y_a),(0),(0),(0),(0),(0),Z7,H',⟨Nat.le_refl _⟩,⟨(Z1 HOoc)⟩,⟨(Z1 HOod)⟩,⟨(bb_ BKoa)⟩,⟨ZB⟩⟩
 clear H'
 obtain⟨x4_1,x14_1,x656000_1,x656001_1,x656002_1,x656003_1,rfl,HA,HK1,HO_4,HO_12,BKoa,HB⟩:=hrel
 obtain _|k1:=gk
 ·
  exact absurd HA.out (by simp[impl_ParseCircle.l0])
 have H:=HA.out
 clear HA
 simp only[impl_ParseCircle.l0]at H
 by_cases c8:x14_1<(t659.length:Int)
 ·
  rw[if_pos c8]at H
  have c8b0:=decide_eq_true c8
  clear c8
  obtain⟨c9,H⟩:=ip_ H
  have c9b0:=decide_eq_true c9
  clear c9
  obtain⟨c10,H⟩:=ip_ H
  have c10b0:=decide_eq_true c10
  clear c10
  obtain⟨⟨t663,t664⟩,A11,H⟩:=bs_ H
  try dsimp only at H
  rcases t664 with _|q665
  rotate_left
  ·
   rw[if_neg (show¬(some q665).isNone=true by simp)]at H
   try simp only[errW_none,errW_some]
   simp only[Option.some.injEq,Prod.mk.injEq]at H
   obtain⟨rfl,rfl,rfl,rfl,rfl⟩:=H
   have p662:0≤(x14_1:Int):=of_decide_eq_true Z5
   have q662:x14_1<(t659.length:Int):=of_decide_eq_true Z5
   obtain⟨ad662,e662,hx662_0⟩:=Kd.at_string (Kd.R_reads' HO_12.1).2.2 x14_1 p662 q662
   cases e662
   replace p662:=eq_true p662
   replace q662:=eq_true q662
   go_wp2_with (first|((with_reducible refine gc_ 64 rfl ?_);refine goesN_ 64 (some 20) Tryz.func64 #[.string (rdOf ByteArray.empty t659 x14_1)] ?_;(with_reducible refine(strconv_Atoi.calls (rdOf ByteArray.empty t659 x14_1) t663 (some q665) _ ?vars A11.1).mono ?_);(case vars=>exact Vars.below HVARS.out ZB (Nat.le_refl _));rintro e w15 ⟨v_,rfl,hev_,hb⟩;(first|(obtain rfl:v_= .nilIface:=hev_)|(obtain⟨tp_,p_,rfl⟩:∃tp p,v_=Value.iface tp p:=hev_));refine⟨_,rfl,?_⟩;replace HO_4:=am (Kd.R_below (Z1 HO_4) hb);replace HO_12:=am (Kd.R_below (Z1 HO_12) hb);replace BKoa:=bk_ BKoa hb;replace HB:=bw_ hb;clear hb;(try simp only[errW_none,errW_some]);obtain⟨_,_,_,_,_,_,_,_⟩:=cz4_ BKoa))
   refine bodyPost_ret (results_ct rfl _ _ gboa 37 #[.int .i64 0,.int .i64 0,.int .i64 0,.int .i64 0] (0,0) _ rfl (bb_ BKoa) Tryz.underlying37 rfl Z19) rfl ?_
   exact⟨Z6,ZB⟩
  rw[if_pos (show(none:Option Int).isNone=true by rfl)]at H
  try simp only[errW_none,errW_some]
  obtain⟨c12,H⟩:=ip_ H
  have LMc12:=am c12
  clear c12
  obtain⟨y_b,hy_b⟩:∃y_:List Int,y_=(x4_1++[t663]):=⟨_,rfl⟩
  replace H:(impl_ParseCircle.l0 k1 a0 y_b t659 (t659.length:Int) (wrap64 (x14_1+1)))=some (r1,r2,r3,r4,r5):=Z14
  have Ny_b:=am hy_b
  clear hy_b
  have H':=am H
  clear H
  have p662:0≤(x14_1:Int):=of_decide_eq_true Z5
  have q662:x14_1<(t659.length:Int):=of_decide_eq_true Z5
  obtain⟨ad662,e662,hx662_0⟩:=Kd.at_string (Kd.R_reads' HO_12.1).2.2 x14_1 p662 q662
  cases e662
  replace p662:=eq_true p662
  replace q662:=eq_true q662
  go_wp2_with (first|((with_reducible refine gc_ 64 rfl ?_);refine goesN_ 64 (some 20) Tryz.func64 #[.string (rdOf ByteArray.empty t659 x14_1)] ?_;(with_reducible refine(strconv_Atoi.calls (rdOf ByteArray.empty t659 x14_1) t663 none _ ?vars A11.1).mono ?_);(case vars=>exact Vars.below HVARS.out ZB (Nat.le_refl _));rintro e w13 ⟨v_,rfl,hev_,hb⟩;(first|(obtain rfl:v_= .nilIface:=hev_)|(obtain⟨tp_,p_,rfl⟩:∃tp p,v_=Value.iface tp p:=hev_));refine⟨_,rfl,?_⟩;replace HO_4:=am (Kd.R_below (Z1 HO_4) hb);replace HO_12:=am (Kd.R_below (Z1 HO_12) hb);replace BKoa:=bk_ BKoa hb;replace HB:=bw_ hb;clear hb;(try simp only[errW_none,errW_some]))|((with_reducible refine gate_builtin (b:= .append) (xs:=#[.tmp 26,.tmp 28]) rfl ?_);at_builtin;refine Kd.R_append (Kd.int .i64) (w0:=w) w.heap.size rfl (.tmp 26) (.tmp 28) 30 3 (.int .i64 0) 8 rfl Tryz.underlying30 info3 rfl (by decide) (by omega) u4 x4_1 t663 [.int .i64 t663] (fun _=>True) (fun _=>False) rfl rfl ?aP (fun _ hk=>hk.elim) ?aF ?aO ?aB ?aS ?aL ?_;(case aP=>exact rfl);(case aB=>exact ZB);(case aF=>exact(fun _ _=>trivial));(case aO=>exact(Z1 HO_4));(case aS=>exact zs_);(case aL=>have:=LMc12.out;omega);intro v667 w14 ho hb hg hat;rw[←Ny_b.1]at ho;replace HO_12:=am (Kd.R_over' (Z1 HO_12) (Kd.R_typed (Z1 HO_4)) (by decide) hg);replace BKoa:=am (blk_grown (bb_ BKoa) hg (Kd.R_ne HO_4.1 BKoa.1 (by decide)));replace HB:=am hb;have HOoe:=am ho;clear HO_4;clear ho hb hg hat))
  go_roundg k1
  case measure=>have:=HK1.1;omega
  exact⟨(y_b),(wrap64 (x14_1+1)),(x656000_1),(x656001_1),(x656002_1),(x656003_1),Z7,H',⟨Z34⟩,⟨(Z1 HOoe)⟩,⟨(Z1 HO_12)⟩,⟨(bb_ BKoa)⟩,⟨ZB⟩⟩
 rw[if_neg c8]at H
 have c8b0:=decide_eq_false c8
 clear c8
 by_cases c17:(x4_1.length:Int)=4
 rotate_left
 ·
  rw[if_neg c17]at H
  obtain⟨c17b0,c17b1⟩:=ne2_ c17
  simp only[Option.some.injEq,Prod.mk.injEq]at H
  obtain⟨rfl,rfl,rfl,rfl,rfl⟩:=H
  obtain⟨Ao62,co62,eo62⟩:=Kd.R_slice HO_4.1
  subst eo62
  have hcz63_0:wr.cell? ⟨gboa,0,none⟩=some (.int .i64 x656000_1):=(blk_cell BKoa.1 0).trans rfl
  have hcz63_1:wr.cell? ⟨gboa,1,none⟩=some (.int .i64 x656001_1):=(blk_cell BKoa.1 1).trans rfl
  have hcz63_2:wr.cell? ⟨gboa,2,none⟩=some (.int .i64 x656002_1):=(blk_cell BKoa.1 2).trans rfl
  have hcz63_3:wr.cell? ⟨gboa,3,none⟩=some (.int .i64 x656003_1):=(blk_cell BKoa.1 3).trans rfl
  have hfz63_0:=blk_frozen BKoa.1 0
  have hfz63_1:=blk_frozen BKoa.1 1
  have hfz63_2:=blk_frozen BKoa.1 2
  have hfz63_3:=blk_frozen BKoa.1 3
  go_wp2
  refine bodyPost_ret (results_ct rfl _ _ gboa 37 #[.int .i64 0,.int .i64 0,.int .i64 0,.int .i64 0] (0,0) _ rfl (bb_ BKoa) Tryz.underlying37 rfl Z19) rfl ?_
  exact⟨Z6,ZB⟩
 rw[if_pos c17]at H
 obtain⟨c17b0,c17b1⟩:=eq2_ c17
 clear c17
 obtain⟨c18,H⟩:=ip_ H
 have c18b0:=decide_eq_true c18
 have c18b1:decide (0<x4_1.length)=true:=decide_eq_true (by omega)
 clear c18
 obtain⟨c19,H⟩:=ip_ H
 have c19b0:=decide_eq_true c19
 have c19b1:decide (1<x4_1.length)=true:=decide_eq_true (by omega)
 clear c19
 obtain⟨c20,H⟩:=ip_ H
 have c20b0:=decide_eq_true c20
 have c20b1:decide (2<x4_1.length)=true:=decide_eq_true (by omega)
 clear c20
 obtain⟨c21,H⟩:=ip_ H
 have c21b0:=decide_eq_true c21
 have c21b1:decide (3<x4_1.length)=true:=decide_eq_true (by omega)
 clear c21
 obtain⟨t674,A22,H⟩:=bs_ H
 try dsimp only at H
 by_cases c23:t674=true
 rotate_left
 ·
  replace c23:=Bool.eq_false_iff.mpr c23
  subst c23
  rw[if_neg (show¬(false=true) by decide)]at H
  simp only[Option.some.injEq,Prod.mk.injEq]at H
  obtain⟨rfl,rfl,rfl,rfl,rfl⟩:=H
  obtain⟨Ao51,co51,eo51⟩:=Kd.R_slice HO_4.1
  subst eo51
  try go_wp2
  have n0_:=am (Kd.R_drew HO_4.1)
  have n1_:=am (Kd.R_drew HO_12.1)
  have n2_:=am (blk_drew BKoa.1)
  have n3_:=am (below_drew1 HB.1)
  clear HO_4
  clear HO_12
  clear BKoa
  clear HB
  have HO_4:=n0_
  have HO_12:=n1_
  have BKoa:=n2_
  have HB:=n3_
  clear n0_ n1_ n2_ n3_
  have p669:0≤(0:Int):=(by omega)
  have q669:0<(x4_1.length:Int):=of_decide_eq_true Z5
  obtain⟨ad669,e669,hx669_0⟩:=Kd.at_int (Kd.R_reads' HO_4.1).2.2 0 p669 q669
  cases e669
  have qi669:(0<x4_1.length)=True:=eq_true (by omega)
  (try rw[show((0:Int)).toNat=0 from rfl]at hx669_0)
  (try rw[Addr.add_zero']at hx669_0)
  replace p669:=eq_true p669
  replace q669:=eq_true q669
  have p670:0≤(1:Int):=(by omega)
  have q670:1<(x4_1.length:Int):=of_decide_eq_true Z5
  obtain⟨ad670,e670,hx670_0⟩:=Kd.at_int (Kd.R_reads' HO_4.1).2.2 1 p670 q670
  obtain rfl:ad669=ad670:=(by injection e670)
  (try simp only[show(1:Int).toNat=1 from rfl,Nat.reduceMul,Nat.reduceEqDiff,Go.Addr.add,↓reduceIte]at hx670_0)
  have qi670:(1<x4_1.length)=True:=eq_true (by omega)
  (try rw[show((1:Int)).toNat=1 from rfl]at hx670_0)
  replace p670:=eq_true p670
  replace q670:=eq_true q670
  have p671:0≤(2:Int):=(by omega)
  have q671:2<(x4_1.length:Int):=of_decide_eq_true Z5
  obtain⟨ad671,e671,hx671_0⟩:=Kd.at_int (Kd.R_reads' HO_4.1).2.2 2 p671 q671
  obtain rfl:ad669=ad671:=(by injection e671)
  (try simp only[show(2:Int).toNat=2 from rfl,Nat.reduceMul,Nat.reduceEqDiff,Go.Addr.add,↓reduceIte]at hx671_0)
  have qi671:(2<x4_1.length)=True:=eq_true (by omega)
  (try rw[show((2:Int)).toNat=2 from rfl]at hx671_0)
  replace p671:=eq_true p671
  replace q671:=eq_true q671
  have p672:0≤(3:Int):=(by omega)
  have q672:3<(x4_1.length:Int):=of_decide_eq_true Z5
  obtain⟨ad672,e672,hx672_0⟩:=Kd.at_int (Kd.R_reads' HO_4.1).2.2 3 p672 q672
  obtain rfl:ad669=ad672:=(by injection e672)
  (try simp only[show(3:Int).toNat=3 from rfl,Nat.reduceMul,Nat.reduceEqDiff,Go.Addr.add,↓reduceIte]at hx672_0)
  have qi672:(3<x4_1.length)=True:=eq_true (by omega)
  (try rw[show((3:Int)).toNat=3 from rfl]at hx672_0)
  replace p672:=eq_true p672
  replace q672:=eq_true q672
  refine start_ (n:=15) (S:=fun w'=>w'.cell? ad669=some (.int .i64 (rd x4_1 0))∧w'.cell? ⟨ad669.block,ad669.off+1,none⟩=some (.int .i64 (rd x4_1 1))∧w'.cell? ⟨ad669.block,ad669.off+2,none⟩=some (.int .i64 (rd x4_1 2))∧w'.cell? ⟨ad669.block,ad669.off+3,none⟩=some (.int .i64 (rd x4_1 3))) (ds:=[]) M3 Z19 rfl rfl ⟨hx669_0,hx670_0,hx671_0,hx672_0⟩ (fun hHeld=>?_);refine with_tabW impl_ParseCircle.tab12 impl_ParseCircle.bits12 (fun HT_ HW_=>?_)
  generalize wr.drew=w52 at HO_4 HO_12 BKoa HB hx669_0 hx670_0 hx671_0 hx672_0 hHeld ⊢
  refine pury_ 0 35 M11 HT_ ?_
  refine pury_ 1 36 M14 HT_ ?_
  refine pury_ 3 38 M16 HT_ ?_
  refine pury_ 4 39 M22 HT_ ?_
  refine pury_ 6 41 M23 HT_ ?_
  refine pury_ 7 42 M24 HT_ ?_
  refine pury_ 9 44 M25 HT_ ?_
  refine pury_ 10 45 M26 HT_ ?_
  refine taky4_ 2 37 M40 HT_ HW_ hHeld ?_
  refine taky4_ 5 40 M47 HT_ HW_ hHeld ?_
  refine taky4_ 8 43 M51 HT_ HW_ hHeld ?_
  refine taky4_ 11 46 M54 HT_ HW_ hHeld ?_
  refine pury_ 12 47 M55 HT_ ?_
  refine one_ (i:=13) (N:=some 9) M57 rfl rfl (one_of HT_.out Z19) (by decide) (fun K hK=>?_)
  refine box_step ?hg (N:=9) ?hd (cs:=#[.int .i64 0,.int .i64 0,.int .i64 0,.int .i64 0]) (t:=37) ?hr ?_;(case hd=>rfl);(case hg=>rfl);(case hr=>first|(go_simp;done)|(go_simp;rfl))
  intro gbob hg w53 hbox hb
  have HS0_:=(hb.cell (World.block_lt_of_cell? _ _ (hHeld.1))).trans (hHeld.1)
  have HS1_:=(hb.cell (World.block_lt_of_cell? _ _ (hHeld.2.1))).trans (hHeld.2.1)
  have HS2_:=(hb.cell (World.block_lt_of_cell? _ _ (hHeld.2.2.1))).trans (hHeld.2.2.1)
  have HS3_:=(hb.cell (World.block_lt_of_cell? _ _ (hHeld.2.2.2))).trans (hHeld.2.2.2)
  have n0_:=am (Kd.R_below (Z1 HO_4) hb)
  have n1_:=am (Kd.R_below (Z1 HO_12) hb)
  have n2_:=bk_ BKoa hb
  have n3_:=bw_ hb
  have n4_:=am (hbox)
  have n5_:=am ((by rw[hg];exact zs_:w.heap.size≤gbob))
  have n6_:=am ((by rw[hg];exact zs_:w.heap.size≤gbob))
  have n7_:=am ((by rw[hg];exact Nat.ne_of_lt (blk_lt (bb_ BKoa)):gboa≠gbob))
  have n8_:=am ((by rw[hg];exact Nat.ne_of_gt (blk_lt (bb_ BKoa)):gbob≠gboa))
  clear HO_4
  clear HO_12
  clear BKoa
  clear HB
  have HO_4:=n0_
  have HO_12:=n1_
  have BKoa:=n2_
  have HB:=n3_
  have BKob:=n4_
  have GWob:=n5_
  have GEob:=n6_
  have NBoa_ob:=n7_
  have NBob_oa:=n8_
  clear n0_ n1_ n2_ n3_ n4_ n5_ n6_ n7_ n8_
  clear hb hbox hg
  refine hK.out _ _ ⟨HS0_,HS1_,HS2_,HS3_⟩ (fun hHeld=>?_)
  clear hK K
  refine norm_ (a':=?_) ?_ ?_
  rotate_left
  ·
   show Act.put _ (some 9) _=_
   simp only[Act.put,List.setIfInBounds_toArray,List.set_cons_zero,List.set_cons_succ,i64_w,i32_w]
   rfl
  refine one_ (i:=14) (N:=none) M67 rfl rfl (one_of HT_.out Z19) (by decide) (fun K hK=>?_)
  have hs54:w53.cell? ⟨gbob,0,none⟩=some (.int .i64 0):=(blk_cell BKob.1 0).trans rfl
  have hfs54:=blk_frozen BKob.1 0
  have hns54_0:=NBoa_ob.1
  have hms54_0:=NBob_oa.1
  have hs55:w53.cell? ⟨gbob,1,none⟩=some (.int .i64 0):=(blk_cell BKob.1 1).trans rfl
  have hfs55:=blk_frozen BKob.1 1
  have hns55_0:=NBoa_ob.1
  have hms55_0:=NBob_oa.1
  have hs56:w53.cell? ⟨gbob,2,none⟩=some (.int .i64 0):=(blk_cell BKob.1 2).trans rfl
  have hfs56:=blk_frozen BKob.1 2
  have hns56_0:=NBoa_ob.1
  have hms56_0:=NBob_oa.1
  have hs57:w53.cell? ⟨gbob,3,none⟩=some (.int .i64 0):=(blk_cell BKob.1 3).trans rfl
  have hfs57:=blk_frozen BKob.1 3
  have hns57_0:=NBoa_ob.1
  have hms57_0:=NBob_oa.1
  refine skip_ (w1:=?_) (by rfl) rfl ?_ ?_
  rotate_left
  ·
   go_simp
   rfl
  refine hK.out _ _ ⟨((cell_far (p:=⟨gbob,_,none⟩) (Z3 HO_4 BKob) _).trans (((cell_far (p:=⟨gbob,_,none⟩) (Z3 HO_4 BKob) _).trans (((cell_far (p:=⟨gbob,_,none⟩) (Z3 HO_4 BKob) _).trans (((cell_far (p:=⟨gbob,_,none⟩) (Z3 HO_4 BKob) _).trans (hHeld.1)))))))),((cell_far (p:=⟨gbob,_,none⟩) (Z3 HO_4 BKob) _).trans (((cell_far (p:=⟨gbob,_,none⟩) (Z3 HO_4 BKob) _).trans (((cell_far (p:=⟨gbob,_,none⟩) (Z3 HO_4 BKob) _).trans (((cell_far (p:=⟨gbob,_,none⟩) (Z3 HO_4 BKob) _).trans (hHeld.2.1)))))))),((cell_far (p:=⟨gbob,_,none⟩) (Z3 HO_4 BKob) _).trans (((cell_far (p:=⟨gbob,_,none⟩) (Z3 HO_4 BKob) _).trans (((cell_far (p:=⟨gbob,_,none⟩) (Z3 HO_4 BKob) _).trans (((cell_far (p:=⟨gbob,_,none⟩) (Z3 HO_4 BKob) _).trans (hHeld.2.2.1)))))))),((cell_far (p:=⟨gbob,_,none⟩) (Z3 HO_4 BKob) _).trans (((cell_far (p:=⟨gbob,_,none⟩) (Z3 HO_4 BKob) _).trans (((cell_far (p:=⟨gbob,_,none⟩) (Z3 HO_4 BKob) _).trans (((cell_far (p:=⟨gbob,_,none⟩) (Z3 HO_4 BKob) _).trans (hHeld.2.2.2))))))))⟩ (fun hHeld=>?_)
  clear hK K
  refine done_ (done_of HT_.out Z19) ?_
  have hnb58:=NBob_oa.1
  have hnc58:=NBoa_ob.1
  have hcz59_0:w53.cell? ⟨gbob,0,none⟩=some (.int .i64 0):=(blk_cell BKob.1 0).trans rfl
  have hcz59_1:w53.cell? ⟨gbob,1,none⟩=some (.int .i64 0):=(blk_cell BKob.1 1).trans rfl
  have hcz59_2:w53.cell? ⟨gbob,2,none⟩=some (.int .i64 0):=(blk_cell BKob.1 2).trans rfl
  have hcz59_3:w53.cell? ⟨gbob,3,none⟩=some (.int .i64 0):=(blk_cell BKob.1 3).trans rfl
  have hfz59_0:=blk_frozen BKob.1 0
  have hfz59_1:=blk_frozen BKob.1 1
  have hfz59_2:=blk_frozen BKob.1 2
  have hfz59_3:=blk_frozen BKob.1 3
  try go_wp2_with (first|((with_reducible refine gc_ 12 rfl ?_);refine gM_ (some 49) Tryz.func12 (impl_IsCircle.calls (rd x4_1 0) (rd x4_1 1) (rd x4_1 2) (rd x4_1 3) false _ A22.1) ?_;intro w60 hb;replace HO_4:=am (Kd.R_below (Z22 HO_4 BKob) hb);replace HO_12:=am (Kd.R_below (Z22 HO_12 BKob) hb);replace BKoa:=bk_ BKoa hb;replace BKob:=bk_ BKob hb;replace HB:=bw_ hb;clear hb;obtain⟨_,_,_,_,_,_,_,_⟩:=cz4_ BKoa))
  refine bodyPost_ret (results_ct rfl _ _ gboa 37 #[.int .i64 0,.int .i64 0,.int .i64 0,.int .i64 0] (0,0) _ rfl (bb_ BKoa) Tryz.underlying37 rfl Z19) rfl ?_
  exact⟨Z6,ZB⟩
 subst c23
 rw[if_pos rfl]at H
 obtain⟨t675,A24,H⟩:=bs_ H
 try dsimp only at H
 by_cases c25:t675.toList=a0.toList
 ·
  rw[if_pos c25]at H
  obtain⟨c25b0,c25b1⟩:=eq2_ c25
  clear c25
  simp only[Option.some.injEq,Prod.mk.injEq]at H
  obtain⟨rfl,rfl,rfl,rfl,rfl⟩:=H
  obtain⟨Ao26,co26,eo26⟩:=Kd.R_slice HO_4.1
  subst eo26
  try go_wp2
  have n0_:=am (Kd.R_drew HO_4.1)
  have n1_:=am (Kd.R_drew HO_12.1)
  have n2_:=am (blk_drew BKoa.1)
  have n3_:=am (below_drew1 HB.1)
  clear HO_4
  clear HO_12
  clear BKoa
  clear HB
  have HO_4:=n0_
  have HO_12:=n1_
  have BKoa:=n2_
  have HB:=n3_
  clear n0_ n1_ n2_ n3_
  have p669:0≤(0:Int):=(by omega)
  have q669:0<(x4_1.length:Int):=of_decide_eq_true Z5
  obtain⟨ad669,e669,hx669_0⟩:=Kd.at_int (Kd.R_reads' HO_4.1).2.2 0 p669 q669
  cases e669
  have qi669:(0<x4_1.length)=True:=eq_true (by omega)
  (try rw[show((0:Int)).toNat=0 from rfl]at hx669_0)
  (try rw[Addr.add_zero']at hx669_0)
  replace p669:=eq_true p669
  replace q669:=eq_true q669
  have p670:0≤(1:Int):=(by omega)
  have q670:1<(x4_1.length:Int):=of_decide_eq_true Z5
  obtain⟨ad670,e670,hx670_0⟩:=Kd.at_int (Kd.R_reads' HO_4.1).2.2 1 p670 q670
  obtain rfl:ad669=ad670:=(by injection e670)
  (try simp only[show(1:Int).toNat=1 from rfl,Nat.reduceMul,Nat.reduceEqDiff,Go.Addr.add,↓reduceIte]at hx670_0)
  have qi670:(1<x4_1.length)=True:=eq_true (by omega)
  (try rw[show((1:Int)).toNat=1 from rfl]at hx670_0)
  replace p670:=eq_true p670
  replace q670:=eq_true q670
  have p671:0≤(2:Int):=(by omega)
  have q671:2<(x4_1.length:Int):=of_decide_eq_true Z5
  obtain⟨ad671,e671,hx671_0⟩:=Kd.at_int (Kd.R_reads' HO_4.1).2.2 2 p671 q671
  obtain rfl:ad669=ad671:=(by injection e671)
  (try simp only[show(2:Int).toNat=2 from rfl,Nat.reduceMul,Nat.reduceEqDiff,Go.Addr.add,↓reduceIte]at hx671_0)
  have qi671:(2<x4_1.length)=True:=eq_true (by omega)
  (try rw[show((2:Int)).toNat=2 from rfl]at hx671_0)
  replace p671:=eq_true p671
  replace q671:=eq_true q671
  have p672:0≤(3:Int):=(by omega)
  have q672:3<(x4_1.length:Int):=of_decide_eq_true Z5
  obtain⟨ad672,e672,hx672_0⟩:=Kd.at_int (Kd.R_reads' HO_4.1).2.2 3 p672 q672
  obtain rfl:ad669=ad672:=(by injection e672)
  (try simp only[show(3:Int).toNat=3 from rfl,Nat.reduceMul,Nat.reduceEqDiff,Go.Addr.add,↓reduceIte]at hx672_0)
  have qi672:(3<x4_1.length)=True:=eq_true (by omega)
  (try rw[show((3:Int)).toNat=3 from rfl]at hx672_0)
  replace p672:=eq_true p672
  replace q672:=eq_true q672
  refine start_ (n:=15) (S:=fun w'=>w'.cell? ad669=some (.int .i64 (rd x4_1 0))∧w'.cell? ⟨ad669.block,ad669.off+1,none⟩=some (.int .i64 (rd x4_1 1))∧w'.cell? ⟨ad669.block,ad669.off+2,none⟩=some (.int .i64 (rd x4_1 2))∧w'.cell? ⟨ad669.block,ad669.off+3,none⟩=some (.int .i64 (rd x4_1 3))) (ds:=[]) M3 Z19 rfl rfl ⟨hx669_0,hx670_0,hx671_0,hx672_0⟩ (fun hHeld=>?_);refine with_tabW impl_ParseCircle.tab12 impl_ParseCircle.bits12 (fun HT_ HW_=>?_)
  generalize wr.drew=w27 at HO_4 HO_12 BKoa HB hx669_0 hx670_0 hx671_0 hx672_0 hHeld ⊢
  refine pury_ 0 35 M11 HT_ ?_
  refine pury_ 1 36 M14 HT_ ?_
  refine pury_ 3 38 M16 HT_ ?_
  refine pury_ 4 39 M22 HT_ ?_
  refine pury_ 6 41 M23 HT_ ?_
  refine pury_ 7 42 M24 HT_ ?_
  refine pury_ 9 44 M25 HT_ ?_
  refine pury_ 10 45 M26 HT_ ?_
  refine taky4_ 2 37 M40 HT_ HW_ hHeld ?_
  refine taky4_ 5 40 M47 HT_ HW_ hHeld ?_
  refine taky4_ 8 43 M51 HT_ HW_ hHeld ?_
  refine taky4_ 11 46 M54 HT_ HW_ hHeld ?_
  refine pury_ 12 47 M55 HT_ ?_
  refine one_ (i:=13) (N:=some 9) M57 rfl rfl (one_of HT_.out Z19) (by decide) (fun K hK=>?_)
  refine box_step ?hg (N:=9) ?hd (cs:=#[.int .i64 0,.int .i64 0,.int .i64 0,.int .i64 0]) (t:=37) ?hr ?_;(case hd=>rfl);(case hg=>rfl);(case hr=>first|(go_simp;done)|(go_simp;rfl))
  intro gbob hg w28 hbox hb
  have HS0_:=(hb.cell (World.block_lt_of_cell? _ _ (hHeld.1))).trans (hHeld.1)
  have HS1_:=(hb.cell (World.block_lt_of_cell? _ _ (hHeld.2.1))).trans (hHeld.2.1)
  have HS2_:=(hb.cell (World.block_lt_of_cell? _ _ (hHeld.2.2.1))).trans (hHeld.2.2.1)
  have HS3_:=(hb.cell (World.block_lt_of_cell? _ _ (hHeld.2.2.2))).trans (hHeld.2.2.2)
  have n0_:=am (Kd.R_below (Z1 HO_4) hb)
  have n1_:=am (Kd.R_below (Z1 HO_12) hb)
  have n2_:=bk_ BKoa hb
  have n3_:=bw_ hb
  have n4_:=am (hbox)
  have n5_:=am ((by rw[hg];exact zs_:w.heap.size≤gbob))
  have n6_:=am ((by rw[hg];exact zs_:w.heap.size≤gbob))
  have n7_:=am ((by rw[hg];exact Nat.ne_of_lt (blk_lt (bb_ BKoa)):gboa≠gbob))
  have n8_:=am ((by rw[hg];exact Nat.ne_of_gt (blk_lt (bb_ BKoa)):gbob≠gboa))
  clear HO_4
  clear HO_12
  clear BKoa
  clear HB
  have HO_4:=n0_
  have HO_12:=n1_
  have BKoa:=n2_
  have HB:=n3_
  have BKob:=n4_
  have GWob:=n5_
  have GEob:=n6_
  have NBoa_ob:=n7_
  have NBob_oa:=n8_
  clear n0_ n1_ n2_ n3_ n4_ n5_ n6_ n7_ n8_
  clear hb hbox hg
  refine hK.out _ _ ⟨HS0_,HS1_,HS2_,HS3_⟩ (fun hHeld=>?_)
  clear hK K
  refine norm_ (a':=?_) ?_ ?_
  rotate_left
  ·
   show Act.put _ (some 9) _=_
   simp only[Act.put,List.setIfInBounds_toArray,List.set_cons_zero,List.set_cons_succ,i64_w,i32_w]
   rfl
  refine one_ (i:=14) (N:=none) M67 rfl rfl (one_of HT_.out Z19) (by decide) (fun K hK=>?_)
  have hs29:w28.cell? ⟨gbob,0,none⟩=some (.int .i64 0):=(blk_cell BKob.1 0).trans rfl
  have hfs29:=blk_frozen BKob.1 0
  have hns29_0:=NBoa_ob.1
  have hms29_0:=NBob_oa.1
  have hs30:w28.cell? ⟨gbob,1,none⟩=some (.int .i64 0):=(blk_cell BKob.1 1).trans rfl
  have hfs30:=blk_frozen BKob.1 1
  have hns30_0:=NBoa_ob.1
  have hms30_0:=NBob_oa.1
  have hs31:w28.cell? ⟨gbob,2,none⟩=some (.int .i64 0):=(blk_cell BKob.1 2).trans rfl
  have hfs31:=blk_frozen BKob.1 2
  have hns31_0:=NBoa_ob.1
  have hms31_0:=NBob_oa.1
  have hs32:w28.cell? ⟨gbob,3,none⟩=some (.int .i64 0):=(blk_cell BKob.1 3).trans rfl
  have hfs32:=blk_frozen BKob.1 3
  have hns32_0:=NBoa_ob.1
  have hms32_0:=NBob_oa.1
  refine skip_ (w1:=?_) (by rfl) rfl ?_ ?_
  rotate_left
  ·
   go_simp
   rfl
  refine hK.out _ _ ⟨((cell_far (p:=⟨gbob,_,none⟩) (Z3 HO_4 BKob) _).trans (((cell_far (p:=⟨gbob,_,none⟩) (Z3 HO_4 BKob) _).trans (((cell_far (p:=⟨gbob,_,none⟩) (Z3 HO_4 BKob) _).trans (((cell_far (p:=⟨gbob,_,none⟩) (Z3 HO_4 BKob) _).trans (hHeld.1)))))))),((cell_far (p:=⟨gbob,_,none⟩) (Z3 HO_4 BKob) _).trans (((cell_far (p:=⟨gbob,_,none⟩) (Z3 HO_4 BKob) _).trans (((cell_far (p:=⟨gbob,_,none⟩) (Z3 HO_4 BKob) _).trans (((cell_far (p:=⟨gbob,_,none⟩) (Z3 HO_4 BKob) _).trans (hHeld.2.1)))))))),((cell_far (p:=⟨gbob,_,none⟩) (Z3 HO_4 BKob) _).trans (((cell_far (p:=⟨gbob,_,none⟩) (Z3 HO_4 BKob) _).trans (((cell_far (p:=⟨gbob,_,none⟩) (Z3 HO_4 BKob) _).trans (((cell_far (p:=⟨gbob,_,none⟩) (Z3 HO_4 BKob) _).trans (hHeld.2.2.1)))))))),((cell_far (p:=⟨gbob,_,none⟩) (Z3 HO_4 BKob) _).trans (((cell_far (p:=⟨gbob,_,none⟩) (Z3 HO_4 BKob) _).trans (((cell_far (p:=⟨gbob,_,none⟩) (Z3 HO_4 BKob) _).trans (((cell_far (p:=⟨gbob,_,none⟩) (Z3 HO_4 BKob) _).trans (hHeld.2.2.2))))))))⟩ (fun hHeld=>?_)
  clear hK K
  refine done_ (done_of HT_.out Z19) ?_
  have hnb33:=NBob_oa.1
  have hnc33:=NBoa_ob.1
  have hcz34_0:w28.cell? ⟨gbob,0,none⟩=some (.int .i64 0):=(blk_cell BKob.1 0).trans rfl
  have hcz34_1:w28.cell? ⟨gbob,1,none⟩=some (.int .i64 0):=(blk_cell BKob.1 1).trans rfl
  have hcz34_2:w28.cell? ⟨gbob,2,none⟩=some (.int .i64 0):=(blk_cell BKob.1 2).trans rfl
  have hcz34_3:w28.cell? ⟨gbob,3,none⟩=some (.int .i64 0):=(blk_cell BKob.1 3).trans rfl
  have hfz34_0:=blk_frozen BKob.1 0
  have hfz34_1:=blk_frozen BKob.1 1
  have hfz34_2:=blk_frozen BKob.1 2
  have hfz34_3:=blk_frozen BKob.1 3
  try go_wp2_with (first|((with_reducible refine gc_ 12 rfl ?_);refine gM_ (some 49) Tryz.func12 (impl_IsCircle.calls (rd x4_1 0) (rd x4_1 1) (rd x4_1 2) (rd x4_1 3) true _ A22.1) ?_;intro w35 hb;replace HO_4:=am (Kd.R_below (Z22 HO_4 BKob) hb);replace HO_12:=am (Kd.R_below (Z22 HO_12 BKob) hb);replace BKoa:=bk_ BKoa hb;replace BKob:=bk_ BKob hb;replace HB:=bw_ hb;clear hb)|(go_at_call 61;(with_reducible refine(impl_words.calls k1 _ _ x4_1 t675 _ ?side1 ?side2 ?tabs A24.1).mono ?_);(case tabs=>exact Tabs.below HTABS.out ZB (Nat.le_refl _));(case side1=>exact(Z10 HO_4));(case side2=>exact(Kd.R_reads' HO_4.1).2.1);rintro e w36 ⟨rfl,hb⟩;replace HO_4:=am (Kd.R_below (Z1 HO_4) hb);replace HO_12:=am (Kd.R_below (Z1 HO_12) hb);replace BKoa:=bk_ BKoa hb;replace BKob:=bk_ BKob hb;replace HB:=bw_ hb;clear hb;obtain⟨_,_,_,_,_,_,_,_⟩:=cz4_ BKob;obtain⟨_,_,_,_,_,_,_,_⟩:=cz4_ BKoa))
  refine bodyPost_ret (results_ct rfl _ _ gboa 37 #[.int .i64 (rd x4_1 0),.int .i64 (rd x4_1 1),.int .i64 (rd x4_1 2),.int .i64 (rd x4_1 3)] (0,0) _ rfl (bb_ BKoa) Tryz.underlying37 rfl Z19) rfl ?_
  exact⟨Z6,ZB⟩
 rw[if_neg c25]at H
 obtain⟨c25b0,c25b1⟩:=ne2_ c25
 simp only[Option.some.injEq,Prod.mk.injEq]at H
 obtain⟨rfl,rfl,rfl,rfl,rfl⟩:=H
 obtain⟨Ao39,co39,eo39⟩:=Kd.R_slice HO_4.1
 subst eo39
 try go_wp2
 have n0_:=am (Kd.R_drew HO_4.1)
 have n1_:=am (Kd.R_drew HO_12.1)
 have n2_:=am (blk_drew BKoa.1)
 have n3_:=am (below_drew1 HB.1)
 clear HO_4
 clear HO_12
 clear BKoa
 clear HB
 have HO_4:=n0_
 have HO_12:=n1_
 have BKoa:=n2_
 have HB:=n3_
 clear n0_ n1_ n2_ n3_
 have p669:0≤(0:Int):=(by omega)
 have q669:0<(x4_1.length:Int):=of_decide_eq_true Z5
 obtain⟨ad669,e669,hx669_0⟩:=Kd.at_int (Kd.R_reads' HO_4.1).2.2 0 p669 q669
 cases e669
 have qi669:(0<x4_1.length)=True:=eq_true (by omega)
 (try rw[show((0:Int)).toNat=0 from rfl]at hx669_0)
 (try rw[Addr.add_zero']at hx669_0)
 replace p669:=eq_true p669
 replace q669:=eq_true q669
 have p670:0≤(1:Int):=(by omega)
 have q670:1<(x4_1.length:Int):=of_decide_eq_true Z5
 obtain⟨ad670,e670,hx670_0⟩:=Kd.at_int (Kd.R_reads' HO_4.1).2.2 1 p670 q670
 obtain rfl:ad669=ad670:=(by injection e670)
 (try simp only[show(1:Int).toNat=1 from rfl,Nat.reduceMul,Nat.reduceEqDiff,Go.Addr.add,↓reduceIte]at hx670_0)
 have qi670:(1<x4_1.length)=True:=eq_true (by omega)
 (try rw[show((1:Int)).toNat=1 from rfl]at hx670_0)
 replace p670:=eq_true p670
 replace q670:=eq_true q670
 have p671:0≤(2:Int):=(by omega)
 have q671:2<(x4_1.length:Int):=of_decide_eq_true Z5
 obtain⟨ad671,e671,hx671_0⟩:=Kd.at_int (Kd.R_reads' HO_4.1).2.2 2 p671 q671
 obtain rfl:ad669=ad671:=(by injection e671)
 (try simp only[show(2:Int).toNat=2 from rfl,Nat.reduceMul,Nat.reduceEqDiff,Go.Addr.add,↓reduceIte]at hx671_0)
 have qi671:(2<x4_1.length)=True:=eq_true (by omega)
 (try rw[show((2:Int)).toNat=2 from rfl]at hx671_0)
 replace p671:=eq_true p671
 replace q671:=eq_true q671
 have p672:0≤(3:Int):=(by omega)
 have q672:3<(x4_1.length:Int):=of_decide_eq_true Z5
 obtain⟨ad672,e672,hx672_0⟩:=Kd.at_int (Kd.R_reads' HO_4.1).2.2 3 p672 q672
 obtain rfl:ad669=ad672:=(by injection e672)
 (try simp only[show(3:Int).toNat=3 from rfl,Nat.reduceMul,Nat.reduceEqDiff,Go.Addr.add,↓reduceIte]at hx672_0)
 have qi672:(3<x4_1.length)=True:=eq_true (by omega)
 (try rw[show((3:Int)).toNat=3 from rfl]at hx672_0)
 replace p672:=eq_true p672
 replace q672:=eq_true q672
 refine start_ (n:=15) (S:=fun w'=>w'.cell? ad669=some (.int .i64 (rd x4_1 0))∧w'.cell? ⟨ad669.block,ad669.off+1,none⟩=some (.int .i64 (rd x4_1 1))∧w'.cell? ⟨ad669.block,ad669.off+2,none⟩=some (.int .i64 (rd x4_1 2))∧w'.cell? ⟨ad669.block,ad669.off+3,none⟩=some (.int .i64 (rd x4_1 3))) (ds:=[]) M3 Z19 rfl rfl ⟨hx669_0,hx670_0,hx671_0,hx672_0⟩ (fun hHeld=>?_);refine with_tabW impl_ParseCircle.tab12 impl_ParseCircle.bits12 (fun HT_ HW_=>?_)
 generalize wr.drew=w40 at HO_4 HO_12 BKoa HB hx669_0 hx670_0 hx671_0 hx672_0 hHeld ⊢
 refine pury_ 0 35 M11 HT_ ?_
 refine pury_ 1 36 M14 HT_ ?_
 refine pury_ 3 38 M16 HT_ ?_
 refine pury_ 4 39 M22 HT_ ?_
 refine pury_ 6 41 M23 HT_ ?_
 refine pury_ 7 42 M24 HT_ ?_
 refine pury_ 9 44 M25 HT_ ?_
 refine pury_ 10 45 M26 HT_ ?_
 refine taky4_ 2 37 M40 HT_ HW_ hHeld ?_
 refine taky4_ 5 40 M47 HT_ HW_ hHeld ?_
 refine taky4_ 8 43 M51 HT_ HW_ hHeld ?_
 refine taky4_ 11 46 M54 HT_ HW_ hHeld ?_
 refine pury_ 12 47 M55 HT_ ?_
 refine one_ (i:=13) (N:=some 9) M57 rfl rfl (one_of HT_.out Z19) (by decide) (fun K hK=>?_)
 refine box_step ?hg (N:=9) ?hd (cs:=#[.int .i64 0,.int .i64 0,.int .i64 0,.int .i64 0]) (t:=37) ?hr ?_;(case hd=>rfl);(case hg=>rfl);(case hr=>first|(go_simp;done)|(go_simp;rfl))
 intro gbob hg w41 hbox hb
 have HS0_:=(hb.cell (World.block_lt_of_cell? _ _ (hHeld.1))).trans (hHeld.1)
 have HS1_:=(hb.cell (World.block_lt_of_cell? _ _ (hHeld.2.1))).trans (hHeld.2.1)
 have HS2_:=(hb.cell (World.block_lt_of_cell? _ _ (hHeld.2.2.1))).trans (hHeld.2.2.1)
 have HS3_:=(hb.cell (World.block_lt_of_cell? _ _ (hHeld.2.2.2))).trans (hHeld.2.2.2)
 have n0_:=am (Kd.R_below (Z1 HO_4) hb)
 have n1_:=am (Kd.R_below (Z1 HO_12) hb)
 have n2_:=bk_ BKoa hb
 have n3_:=bw_ hb
 have n4_:=am (hbox)
 have n5_:=am ((by rw[hg];exact zs_:w.heap.size≤gbob))
 have n6_:=am ((by rw[hg];exact zs_:w.heap.size≤gbob))
 have n7_:=am ((by rw[hg];exact Nat.ne_of_lt (blk_lt (bb_ BKoa)):gboa≠gbob))
 have n8_:=am ((by rw[hg];exact Nat.ne_of_gt (blk_lt (bb_ BKoa)):gbob≠gboa))
 clear HO_4
 clear HO_12
 clear BKoa
 clear HB
 have HO_4:=n0_
 have HO_12:=n1_
 have BKoa:=n2_
 have HB:=n3_
 have BKob:=n4_
 have GWob:=n5_
 have GEob:=n6_
 have NBoa_ob:=n7_
 have NBob_oa:=n8_
 clear n0_ n1_ n2_ n3_ n4_ n5_ n6_ n7_ n8_
 clear hb hbox hg
 refine hK.out _ _ ⟨HS0_,HS1_,HS2_,HS3_⟩ (fun hHeld=>?_)
 clear hK K
 refine norm_ (a':=?_) ?_ ?_
 rotate_left
 ·
  show Act.put _ (some 9) _=_
  simp only[Act.put,List.setIfInBounds_toArray,List.set_cons_zero,List.set_cons_succ,i64_w,i32_w]
  rfl
 refine one_ (i:=14) (N:=none) M67 rfl rfl (one_of HT_.out Z19) (by decide) (fun K hK=>?_)
 have hs42:w41.cell? ⟨gbob,0,none⟩=some (.int .i64 0):=(blk_cell BKob.1 0).trans rfl
 have hfs42:=blk_frozen BKob.1 0
 have hns42_0:=NBoa_ob.1
 have hms42_0:=NBob_oa.1
 have hs43:w41.cell? ⟨gbob,1,none⟩=some (.int .i64 0):=(blk_cell BKob.1 1).trans rfl
 have hfs43:=blk_frozen BKob.1 1
 have hns43_0:=NBoa_ob.1
 have hms43_0:=NBob_oa.1
 have hs44:w41.cell? ⟨gbob,2,none⟩=some (.int .i64 0):=(blk_cell BKob.1 2).trans rfl
 have hfs44:=blk_frozen BKob.1 2
 have hns44_0:=NBoa_ob.1
 have hms44_0:=NBob_oa.1
 have hs45:w41.cell? ⟨gbob,3,none⟩=some (.int .i64 0):=(blk_cell BKob.1 3).trans rfl
 have hfs45:=blk_frozen BKob.1 3
 have hns45_0:=NBoa_ob.1
 have hms45_0:=NBob_oa.1
 refine skip_ (w1:=?_) (by rfl) rfl ?_ ?_
 rotate_left
 ·
  go_simp
  rfl
 refine hK.out _ _ ⟨((cell_far (p:=⟨gbob,_,none⟩) (Z3 HO_4 BKob) _).trans (((cell_far (p:=⟨gbob,_,none⟩) (Z3 HO_4 BKob) _).trans (((cell_far (p:=⟨gbob,_,none⟩) (Z3 HO_4 BKob) _).trans (((cell_far (p:=⟨gbob,_,none⟩) (Z3 HO_4 BKob) _).trans (hHeld.1)))))))),((cell_far (p:=⟨gbob,_,none⟩) (Z3 HO_4 BKob) _).trans (((cell_far (p:=⟨gbob,_,none⟩) (Z3 HO_4 BKob) _).trans (((cell_far (p:=⟨gbob,_,none⟩) (Z3 HO_4 BKob) _).trans (((cell_far (p:=⟨gbob,_,none⟩) (Z3 HO_4 BKob) _).trans (hHeld.2.1)))))))),((cell_far (p:=⟨gbob,_,none⟩) (Z3 HO_4 BKob) _).trans (((cell_far (p:=⟨gbob,_,none⟩) (Z3 HO_4 BKob) _).trans (((cell_far (p:=⟨gbob,_,none⟩) (Z3 HO_4 BKob) _).trans (((cell_far (p:=⟨gbob,_,none⟩) (Z3 HO_4 BKob) _).trans (hHeld.2.2.1)))))))),((cell_far (p:=⟨gbob,_,none⟩) (Z3 HO_4 BKob) _).trans (((cell_far (p:=⟨gbob,_,none⟩) (Z3 HO_4 BKob) _).trans (((cell_far (p:=⟨gbob,_,none⟩) (Z3 HO_4 BKob) _).trans (((cell_far (p:=⟨gbob,_,none⟩) (Z3 HO_4 BKob) _).trans (hHeld.2.2.2))))))))⟩ (fun hHeld=>?_)
 clear hK K
 refine done_ (done_of HT_.out Z19) ?_
 have hnb46:=NBob_oa.1
 have hnc46:=NBoa_ob.1
 have hcz47_0:w41.cell? ⟨gbob,0,none⟩=some (.int .i64 0):=(blk_cell BKob.1 0).trans rfl
 have hcz47_1:w41.cell? ⟨gbob,1,none⟩=some (.int .i64 0):=(blk_cell BKob.1 1).trans rfl
 have hcz47_2:w41.cell? ⟨gbob,2,none⟩=some (.int .i64 0):=(blk_cell BKob.1 2).trans rfl
 have hcz47_3:w41.cell? ⟨gbob,3,none⟩=some (.int .i64 0):=(blk_cell BKob.1 3).trans rfl
 have hfz47_0:=blk_frozen BKob.1 0
 have hfz47_1:=blk_frozen BKob.1 1
 have hfz47_2:=blk_frozen BKob.1 2
 have hfz47_3:=blk_frozen BKob.1 3
 try go_wp2_with (first|((with_reducible refine gc_ 12 rfl ?_);refine gM_ (some 49) Tryz.func12 (impl_IsCircle.calls (rd x4_1 0) (rd x4_1 1) (rd x4_1 2) (rd x4_1 3) true _ A22.1) ?_;intro w48 hb;replace HO_4:=am (Kd.R_below (Z22 HO_4 BKob) hb);replace HO_12:=am (Kd.R_below (Z22 HO_12 BKob) hb);replace BKoa:=bk_ BKoa hb;replace BKob:=bk_ BKob hb;replace HB:=bw_ hb;clear hb)|(go_at_call 61;(with_reducible refine(impl_words.calls k1 _ _ x4_1 t675 _ ?side1 ?side2 ?tabs A24.1).mono ?_);(case tabs=>exact Tabs.below HTABS.out ZB (Nat.le_refl _));(case side1=>exact(Z10 HO_4));(case side2=>exact(Kd.R_reads' HO_4.1).2.1);rintro e w49 ⟨rfl,hb⟩;replace HO_4:=am (Kd.R_below (Z1 HO_4) hb);replace HO_12:=am (Kd.R_below (Z1 HO_12) hb);replace BKoa:=bk_ BKoa hb;replace BKob:=bk_ BKob hb;replace HB:=bw_ hb;clear hb;obtain⟨_,_,_,_,_,_,_,_⟩:=cz4_ BKoa))
 refine bodyPost_ret (results_ct rfl _ _ gboa 37 #[.int .i64 0,.int .i64 0,.int .i64 0,.int .i64 0] (0,0) _ rfl (bb_ BKoa) Tryz.underlying37 rfl Z19) rfl ?_
 exact⟨Z6,ZB⟩
end Go.Proofs.YtmpofeilljmmiaaGreatDoor.P
