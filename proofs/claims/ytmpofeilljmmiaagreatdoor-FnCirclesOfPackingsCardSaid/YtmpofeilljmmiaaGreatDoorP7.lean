/- Lean functions with the answers of Go functions that the statement reaches, and the proofs that the calls come to them; conditions: none but the arguments' kinds. -/
import Derived.Test.YtmpofeilljmmiaaGreatDoorP0
import Derived.Test.YtmpofeilljmmiaaGreatDoorP22
namespace Go.Proofs.YtmpofeilljmmiaaGreatDoor.P
open Go.RowKit Go.Proofs.YtmpofeilljmmiaaGreatDoorW.PrintWords Go.Proofs.YtmpofeilljmmiaaGreatDoorW.PrintLast Go.Proofs.YtmpofeilljmmiaaGreatDoorW.PrintMore
attribute [local go_sem] max2_int min2_int max_two min_two max_three min_three max_four min_four
set_option linter.unusedVariables false
set_option linter.unusedSimpArgs false
def laws_big.f (l0:List Int) (l1:List Int):Option (Bool):=if(l0.length:Int)>1048576 then(some true)else(some (decide ((l1.length:Int)>(wrap64 (1048576-(l0.length:Int))))))
set_option maxHeartbeats 8000000 in
set_option maxRecDepth 100000 in
theorem laws_big.calls (A0:Option Addr) (c0:Nat) (l0:List Int) (A1:Option Addr) (c1:Nat) (l1:List Int) (r:Bool) (w:World) (hr0:Kd.C (Kd.int .u8) w A0 l0.length l0) (hc0:l0.length≤c0) (hr1:Kd.C (Kd.int .u8) w A1 l1.length l1) (hc1:l1.length≤c1) (h:laws_big.f l0 l1=some r):
  Calls Tryz.prog 4 #[.slice A0 l0.length c0,.slice A1 l1.length c1] w fun e w'=>e= .returned (.bool r)∧Drawn0 w w':=by
 have HR0:=am hr0
 have HC0:=am hc0
 clear hr0 hc0
 have HR1:=am hr1
 have HC1:=am hc1
 clear hr1 hc1
 have H:=h
 clear h
 unfold laws_big.f at H
 by_cases c3:(l0.length:Int)>1048576
 ·
  rw[if_pos c3]at H
  have c3b0:decide (1048576<(l0.length:Int))=true:=decide_eq_true c3
  have c3b1:decide (1048576<l0.length)=true:=decide_eq_true (by omega)
  clear c3
  obtain rfl:=Option.some.inj H
  go_enter Tryz.func4,Tryz.ntmps4
  go_wp2
  go_ret
  exact⟨Z7,Z16⟩
 rw[if_neg c3]at H
 have c3b0:decide (1048576<(l0.length:Int))=false:=decide_eq_false c3
 have c3b1:decide (1048576<l0.length)=false:=decide_eq_false (by omega)
 clear c3
 obtain rfl:=Option.some.inj H
 go_enter Tryz.func4,Tryz.ntmps4
 go_wp2
 go_ret
 exact⟨Z7,Z16⟩
def spec_StartConfig.f (a0:Int):Option ((List (S37))× Bool):=if a0=0 then(some ((([(⟨1,(-1),0,0⟩:S37),(⟨0,2,1,0⟩:S37),(⟨0,2,(-1),0⟩:S37),(⟨1,3,0,2⟩:S37)]:List (S37))),true))else(if a0=1 then(some ((([(⟨4,0,0,1⟩:S37),(⟨0,0,0,(-1)⟩:S37),(⟨0,1,0,1⟩:S37),(⟨4,1,2,1⟩:S37)]:List (S37))),true))else(some (([]:List (S37)),false)))
set_option maxHeartbeats 8000000 in
set_option maxRecDepth 100000 in
theorem spec_StartConfig.calls (a0:Int) (r1:List (S37)) (r2:Bool) (w:World) (h:spec_StartConfig.f a0=some (r1,r2)):
  Calls Tryz.prog 27 #[.int .i64 a0] w fun e w'=>∃v0_:Value,e= .returned (.tuple #[v0_,.bool r2])∧Kd.R k37 37 w' w.heap.size (fun _=>True) v0_ r1∧Below w.heap.size w w':=by
 have hu37:=Tryz.underlying37
 have HB:=am (Below.refl w.heap.size w)
 have H:=h
 clear h
 unfold spec_StartConfig.f at H
 by_cases c2:a0=0
 ·
  rw[if_pos c2]at H
  obtain⟨c2b0,c2b1⟩:=eq2_ c2
  clear c2
  obtain⟨y_a,hy_a⟩:∃y_:List (S37),y_=(([(⟨1,(-1),0,0⟩:S37),(⟨0,2,1,0⟩:S37),(⟨0,2,(-1),0⟩:S37),(⟨1,3,0,2⟩:S37)]:List (S37))):=⟨_,rfl⟩
  replace H:(some (y_a,true))=some (r1,r2):=Z8
  have Ny_a:=am hy_a
  clear hy_a
  simp only[Option.some.injEq,Prod.mk.injEq]at H
  obtain⟨rfl,rfl⟩:=H
  go_enter Tryz.func27,Tryz.ntmps27
  go_wp2_with (first|((with_reducible refine gd_ 11 rfl ?_);refine Kd.R_lit k37 _ 37 ?hg (N:=11) ?hd (xs:=([(⟨1,(-1),0,0⟩:S37),(⟨0,2,1,0⟩:S37),(⟨0,2,(-1),0⟩:S37),(⟨1,3,0,2⟩:S37)]:List (S37))) (inner:=[.int .i64 1,.int .i64 (-1),.int .i64 0,.int .i64 0,.int .i64 0,.int .i64 2,.int .i64 1,.int .i64 0,.int .i64 0,.int .i64 2,.int .i64 (-1),.int .i64 0,.int .i64 1,.int .i64 3,.int .i64 0,.int .i64 2]) (ok:=fun _=>True) (okp:=fun _=>True) ?hr ?hp (fun _ hk=>hk) trivial (Below.refl _ _) (Nat.le_refl _) (by simp) ?_;(case hd=>rfl);(case hg=>rfl);(case hr=>first|(go_simp;done)|(go_simp;rfl));(case hp=>exact(Reps.c4 (show Kd.M k37 _ _ _ (⟨1,(-1),0,0⟩:S37) [.int .i64 1,.int .i64 (-1),.int .i64 0,.int .i64 0]from(k37_mkM _ _ _ (⟨1,(-1),0,0⟩:S37))) (Reps.c4 (show Kd.M k37 _ _ _ (⟨0,2,1,0⟩:S37) [.int .i64 0,.int .i64 2,.int .i64 1,.int .i64 0]from(k37_mkM _ _ _ (⟨0,2,1,0⟩:S37))) (Reps.c4 (show Kd.M k37 _ _ _ (⟨0,2,(-1),0⟩:S37) [.int .i64 0,.int .i64 2,.int .i64 (-1),.int .i64 0]from(k37_mkM _ _ _ (⟨0,2,(-1),0⟩:S37))) (Reps.c4 (show Kd.M k37 _ _ _ (⟨1,3,0,2⟩:S37) [.int .i64 1,.int .i64 3,.int .i64 0,.int .i64 2]from(k37_mkM _ _ _ (⟨1,3,0,2⟩:S37))) (Reps.none _ _))))));intro v102 w3 ho4 hb hg_ hnew_;clear hg_ hnew_;(first|rw[←Ny_a.1]at ho4|(simp only[Int.reduceToNat]at ho4;rw[←Ny_a.1]at ho4));have HOoa:=am (Kd.R_lower ho4 zs_);replace HB:=bw_ hb;clear hb ho4))
  go_ret2
  exact⟨_,Z6,(Z1 HOoa),ZB⟩
 rw[if_neg c2]at H
 obtain⟨c2b0,c2b1⟩:=ne2_ c2
 by_cases c5:a0=1
 rotate_left
 ·
  rw[if_neg c5]at H
  obtain⟨c5b0,c5b1⟩:=ne2_ c5
  simp only[Option.some.injEq,Prod.mk.injEq]at H
  obtain⟨rfl,rfl⟩:=H
  go_enter Tryz.func27,Tryz.ntmps27
  go_wp2
  go_ret2
  exact⟨_,Z6,Z23,ZB⟩
 rw[if_pos c5]at H
 obtain⟨c5b0,c5b1⟩:=eq2_ c5
 clear c5
 obtain⟨y_b,hy_b⟩:∃y_:List (S37),y_=(([(⟨4,0,0,1⟩:S37),(⟨0,0,0,(-1)⟩:S37),(⟨0,1,0,1⟩:S37),(⟨4,1,2,1⟩:S37)]:List (S37))):=⟨_,rfl⟩
 replace H:(some (y_b,true))=some (r1,r2):=Z14
 have Ny_b:=am hy_b
 clear hy_b
 simp only[Option.some.injEq,Prod.mk.injEq]at H
 obtain⟨rfl,rfl⟩:=H
 go_enter Tryz.func27,Tryz.ntmps27
 go_wp2_with (first|((with_reducible refine gd_ 18 rfl ?_);refine Kd.R_lit k37 _ 37 ?hg (N:=18) ?hd (xs:=([(⟨4,0,0,1⟩:S37),(⟨0,0,0,(-1)⟩:S37),(⟨0,1,0,1⟩:S37),(⟨4,1,2,1⟩:S37)]:List (S37))) (inner:=[.int .i64 4,.int .i64 0,.int .i64 0,.int .i64 1,.int .i64 0,.int .i64 0,.int .i64 0,.int .i64 (-1),.int .i64 0,.int .i64 1,.int .i64 0,.int .i64 1,.int .i64 4,.int .i64 1,.int .i64 2,.int .i64 1]) (ok:=fun _=>True) (okp:=fun _=>True) ?hr ?hp (fun _ hk=>hk) trivial (Below.refl _ _) (Nat.le_refl _) (by simp) ?_;(case hd=>rfl);(case hg=>rfl);(case hr=>first|(go_simp;done)|(go_simp;rfl));(case hp=>exact(Reps.c4 (show Kd.M k37 _ _ _ (⟨4,0,0,1⟩:S37) [.int .i64 4,.int .i64 0,.int .i64 0,.int .i64 1]from(k37_mkM _ _ _ (⟨4,0,0,1⟩:S37))) (Reps.c4 (show Kd.M k37 _ _ _ (⟨0,0,0,(-1)⟩:S37) [.int .i64 0,.int .i64 0,.int .i64 0,.int .i64 (-1)]from(k37_mkM _ _ _ (⟨0,0,0,(-1)⟩:S37))) (Reps.c4 (show Kd.M k37 _ _ _ (⟨0,1,0,1⟩:S37) [.int .i64 0,.int .i64 1,.int .i64 0,.int .i64 1]from(k37_mkM _ _ _ (⟨0,1,0,1⟩:S37))) (Reps.c4 (show Kd.M k37 _ _ _ (⟨4,1,2,1⟩:S37) [.int .i64 4,.int .i64 1,.int .i64 2,.int .i64 1]from(k37_mkM _ _ _ (⟨4,1,2,1⟩:S37))) (Reps.none _ _))))));intro v105 w6 ho7 hb hg_ hnew_;clear hg_ hnew_;(first|rw[←Ny_b.1]at ho7|(simp only[Int.reduceToNat]at ho7;rw[←Ny_b.1]at ho7));have HOob:=am (Kd.R_lower ho7 zs_);replace HB:=bw_ hb;clear hb ho7))
 go_ret2
 exact⟨_,Z6,(Z1 HOob),ZB⟩
def IsS58 (w0 W:World) (g:Nat) (f0:List Int) (f1:Int) (f2:Int):Prop:=∃A0 c0,W.heap[g]?=some (.cells #[.slice A0 f0.length c0,.int .i64 f1,.int .u64 f2] 58 (0,0))∧w0.heap.size≤g∧Kd.C (Kd.int .u8) w0 A0 f0.length f0
theorem IsS58.grown {w0 W:World} {g:Nat} {f0:List Int} {f1:Int} {f2:Int} {W1:World} {row:Option Nat} (h:IsS58 w0 W g f0 f1 f2) (hw:W.grownBy W1 row) (hne:some g≠row):IsS58 w0 W1 g f0 f1 f2:=by
  obtain⟨A0,c0,hb,hg,hr0⟩:=h
  exact⟨A0,c0,blk_grown hb hw hne,hg,hr0⟩
theorem IsS58.own_neN {w0 W:World} {g:Nat} {f0:List Int} {f1:Int} {f2:Int} {α:Type} {d:Kd α} {e:Nat} {base:Nat} {ok:Nat→Prop} {v:Value} {xs:List α} (h:IsS58 w0 W g f0 f1 f2) (ho:Kd.N d e W base ok v xs) (ht:e≠58):some g≠v.ownBlock:=by
  obtain⟨A0,c0,hb,hg,hr0⟩:=h
  exact Kd.N_ne ho hb ht
theorem IsS58.fresh {w0 W:World} {g:Nat} {f0:List Int} {f1:Int} {f2:Int} (h:IsS58 w0 W g f0 f1 f2):∀k,W.heap.size≤k→k≠g:=by
  obtain⟨A0,c0,hb,hg,hr0⟩:=h
  exact Kd.freshB hb
theorem IsS58.kept {w0 W:World} {g:Nat} {f0:List Int} {f1:Int} {f2:Int} {W1:World} {S:Nat→Prop} (h:IsS58 w0 W g f0 f1 f2) (hk:Kept W W1 S) (hne:¬S g):IsS58 w0 W1 g f0 f1 f2:=by
  obtain⟨A0,c0,hb,hg,hr0⟩:=h
  exact⟨A0,c0,blk_kept hb hk hne,hg,hr0⟩
theorem IsS58.below {w0 W:World} {g:Nat} {f0:List Int} {f1:Int} {f2:Int} {W1:World} (h:IsS58 w0 W g f0 f1 f2) (hw:Below W.heap.size W W1):IsS58 w0 W1 g f0 f1 f2:=h.grown (grown_of_below hw none) (by simp)
theorem IsS58.alloc {w0 W:World} {g:Nat} {f0:List Int} {f1:Int} {f2:Int} (h:IsS58 w0 W g f0 f1 f2) (o:Obj):IsS58 w0 (W.alloc o) g f0 f1 f2:=h.below (below_alloc (Below.refl _ _) o)
theorem IsS58.drewN {w0 W:World} {g:Nat} {f0:List Int} {f1:Int} {f2:Int} (h:IsS58 w0 W g f0 f1 f2) (m:Nat):IsS58 w0 (W.drewN m) g f0 f1 f2:=h
theorem IsS58.drew {w0 W:World} {g:Nat} {f0:List Int} {f1:Int} {f2:Int} (h:IsS58 w0 W g f0 f1 f2):IsS58 w0 W.drew g f0 f1 f2:=h
theorem IsS58.at_ {w0 W:World} {g:Nat} {f0:List Int} {f1:Int} {f2:Int} {w':World} {m:Nat} (hq:W.drewN m=w') (h:IsS58 w0 W g f0 f1 f2):IsS58 w0 w' g f0 f1 f2:=by subst hq;exact IsS58.drewN h m
theorem IsS58.apart {w0 W:World} {g:Nat} {f0:List Int} {f1:Int} {f2:Int} {α:Type} {d:Kd α} {e:Nat} {base:Nat} {ok:Nat→Prop} {v:Value} {xs:List α} (h:IsS58 w0 W g f0 f1 f2) (ho:d.R e W base ok v xs) (ht:∀q,q∈e::d.E→q≠58):d.R e W base (fun k=>ok k∧k≠g) v xs:=by
  obtain⟨A0,c0,hb,hg,hr0⟩:=h
  exact Kd.R_types ho hb ht
theorem IsS58.own_ne {w0 W:World} {g:Nat} {f0:List Int} {f1:Int} {f2:Int} {α:Type} {d:Kd α} {e:Nat} {base:Nat} {ok:Nat→Prop} {v:Value} {xs:List α} (h:IsS58 w0 W g f0 f1 f2) (ho:d.R e W base ok v xs) (ht:e≠58):some g≠v.ownBlock:=by
  obtain⟨A0,c0,hb,hg,hr0⟩:=h
  exact Kd.R_ne ho hb ht
theorem IsS58.apartQ {w0 W:World} {g:Nat} {f0:List Int} {f1:Int} {f2:Int} {α:Type} {d:Kd α} {e:Nat} {base:Nat} {ok:Nat→Prop} {v:Value} {xs:List α} (h:IsS58 w0 W g f0 f1 f2) (ho:d.Q e W base ok v xs) (ht:∀q,q∈e::d.E→q≠58):d.Q e W base (fun k=>ok k∧k≠g) v xs:=by
  obtain⟨A0,c0,hb,hg,hr0⟩:=h
  exact Kd.Q_types ho hb ht
theorem IsS58.own_neQ {w0 W:World} {g:Nat} {f0:List Int} {f1:Int} {f2:Int} {α:Type} {d:Kd α} {e:Nat} {base:Nat} {ok:Nat→Prop} {v:Value} {xs:List α} (h:IsS58 w0 W g f0 f1 f2) (ho:d.Q e W base ok v xs) (ht:e≠58):some g≠v.ownBlock:=by
  obtain⟨A0,c0,hb,hg,hr0⟩:=h
  exact Kd.Q_ne ho hb ht
theorem IsS58.apartS {w0 W:World} {g:Nat} {f0:List Int} {f1:Int} {f2:Int} {α:Type} {d:Kd α} {e:Nat} {base:Nat} {ok:Nat→Prop} {v:Value} {xs:List α} (h:IsS58 w0 W g f0 f1 f2) (ho:d.S e W base ok v xs) (ht:∀q,q∈e::d.E→q≠58):d.S e W base (fun k=>ok k∧k≠g) v xs:=by
  obtain⟨A0,c0,hb,hg,hr0⟩:=h
  exact Kd.S_types ho hb ht
theorem IsS58.own_neS {w0 W:World} {g:Nat} {f0:List Int} {f1:Int} {f2:Int} {α:Type} {d:Kd α} {e:Nat} {base:Nat} {ok:Nat→Prop} {v:Value} {xs:List α} (h:IsS58 w0 W g f0 f1 f2) (ho:d.S e W base ok v xs) (ht:e≠58):some g≠v.ownBlock:=by
  obtain⟨A0,c0,hb,hg,hr0⟩:=h
  exact Kd.S_ne ho hb ht
theorem IsS58.lt {w0 W:World} {g:Nat} {f0:List Int} {f1:Int} {f2:Int} (h:IsS58 w0 W g f0 f1 f2):g<W.heap.size:=by
  obtain⟨A0,c0,hb,hg,hr0⟩:=h
  exact blk_lt hb
theorem IsS58.ge {w0 W:World} {g:Nat} {f0:List Int} {f1:Int} {f2:Int} (h:IsS58 w0 W g f0 f1 f2):w0.heap.size≤g:=by
  obtain⟨A0,c0,hb,hg,hr0⟩:=h
  exact hg
theorem IsS58.ne_blk {w0 W:World} {g:Nat} {f0:List Int} {f1:Int} {f2:Int} {a:Nat} {cs:Array Value} {t:TypeId} {fr:Nat × Nat} (h:IsS58 w0 W g f0 f1 f2) (hb2:W.heap[a]?=some (.cells cs t fr)) (ht:t≠58):g≠a:=by
  obtain⟨A0,c0,hb,hg,hr0⟩:=h
  rintro rfl
  rw[hb]at hb2
  injection hb2 with hb2
  injection hb2 with _ ht2
  exact ht ht2.symm
theorem IsS58.far {w0 W:World} {g:Nat} {f0:List Int} {f1:Int} {f2:Int} {p:Addr} (h:IsS58 w0 W g f0 f1 f2) (hne:g≠p.block) (u:Value):IsS58 w0 (W.setCell p u) g f0 f1 f2:=by
  obtain⟨A0,c0,hb,hg,hr0⟩:=h
  exact⟨A0,c0,blk_far hb hne u,hg,hr0⟩
theorem cellS58_0 {W:World} {g:Nat} {A0:Option Addr} {c0:Nat} {f0:List Int} {f1:Int} {f2:Int} (h:W.heap[g]?=some (.cells #[.slice A0 f0.length c0,.int .i64 f1,.int .u64 f2] 58 (0,0))):W.cell? ⟨g,0,none⟩=some (.slice A0 f0.length c0):=(blk_cell h 0).trans rfl
theorem cellS58_1 {W:World} {g:Nat} {A0:Option Addr} {c0:Nat} {f0:List Int} {f1:Int} {f2:Int} (h:W.heap[g]?=some (.cells #[.slice A0 f0.length c0,.int .i64 f1,.int .u64 f2] 58 (0,0))):W.cell? ⟨g,1,none⟩=some (.int .i64 f1):=(blk_cell h 1).trans rfl
theorem IsS58.set_1 {w0 W:World} {g:Nat} {f0:List Int} {f1:Int} {f2:Int} (h:IsS58 w0 W g f0 f1 f2) (x:Int):IsS58 w0 (W.setCell ⟨g,1,none⟩ (.int .i64 x)) g f0 x f2:=by
  obtain⟨A0,c0,hb,hg,hr0⟩:=h
  exact⟨A0,c0,by simpa using blk_set hb 1 (.int .i64 x),hg,hr0⟩
theorem cellS58_2 {W:World} {g:Nat} {A0:Option Addr} {c0:Nat} {f0:List Int} {f1:Int} {f2:Int} (h:W.heap[g]?=some (.cells #[.slice A0 f0.length c0,.int .i64 f1,.int .u64 f2] 58 (0,0))):W.cell? ⟨g,2,none⟩=some (.int .u64 f2):=(blk_cell h 2).trans rfl
theorem IsS58.set_2 {w0 W:World} {g:Nat} {f0:List Int} {f1:Int} {f2:Int} (h:IsS58 w0 W g f0 f1 f2) (x:Int):IsS58 w0 (W.setCell ⟨g,2,none⟩ (.int .u64 x)) g f0 f1 x:=by
  obtain⟨A0,c0,hb,hg,hr0⟩:=h
  exact⟨A0,c0,by simpa using blk_set hb 2 (.int .u64 x),hg,hr0⟩
theorem IsS58.new (w0 W:World) (A0:Option Addr) (c0:Nat) (f0:List Int) (f1:Int) (f2:Int) (hB:Below w0.heap.size w0 W) (hr0:Kd.C (Kd.int .u8) w0 A0 f0.length f0):IsS58 w0 (W.alloc (.cells #[.slice A0 f0.length c0,.int .i64 f1,.int .u64 f2] 58)) W.heap.size f0 f1 f2:=⟨A0,c0,by simpa using heap_alloc_new W _,hB.size,hr0⟩
def spec_l1Cur_next.f (s0_0:List Int) (s0_1:Int) (s0_2:Int):Option (Int × Int × Int):=if s0_1<(s0_0.length:Int)then(if 0≤s0_1 then(if(wrap64 (s0_1+1))≤(s0_0.length:Int)then(some (wrap64 (rd s0_0 s0_1),wrap64 (s0_1+1),IntKind.u64.wrap ((IntKind.u64.wrap ((IntKind.u64.wrap (s0_2*6364136223846793005))+(IntKind.u64.wrap (wrap64 (rd s0_0 s0_1)))))+1442695040888963407)))else(some (wrap64 (Go.bits .and .u64 ((IntKind.u64.wrap ((IntKind.u64.wrap ((IntKind.u64.wrap (s0_2*6364136223846793005))+(IntKind.u64.wrap (wrap64 (rd s0_0 s0_1)))))+1442695040888963407))/1099511627776) 255),wrap64 (s0_1+1),IntKind.u64.wrap ((IntKind.u64.wrap ((IntKind.u64.wrap (s0_2*6364136223846793005))+(IntKind.u64.wrap (wrap64 (rd s0_0 s0_1)))))+1442695040888963407))))else(none))else(if(wrap64 (s0_1+1))≤(s0_0.length:Int)then(some (0,wrap64 (s0_1+1),IntKind.u64.wrap ((IntKind.u64.wrap (IntKind.u64.wrap (s0_2*6364136223846793005)))+1442695040888963407)))else(some (wrap64 (Go.bits .and .u64 ((IntKind.u64.wrap ((IntKind.u64.wrap (IntKind.u64.wrap (s0_2*6364136223846793005)))+1442695040888963407))/1099511627776) 255),wrap64 (s0_1+1),IntKind.u64.wrap ((IntKind.u64.wrap (IntKind.u64.wrap (s0_2*6364136223846793005)))+1442695040888963407))))
set_option maxHeartbeats 8000000 in
set_option maxRecDepth 100000 in
theorem spec_l1Cur_next.calls (g:Nat) (s0_0:List Int) (s0_1:Int) (s0_2:Int) (r1:Int) (r2:Int) (r3:Int) (w0 w:World) (hI:IsS58 w0 w g s0_0 s0_1 s0_2) (hB:Below w0.heap.size w0 w) (h:spec_l1Cur_next.f s0_0 s0_1 s0_2=some (r1,r2,r3)):
  Calls Tryz.prog 86 #[.pointer (some ⟨g,0,none⟩)] w fun e w'=>e= .returned (.int .i64 r1)∧IsS58 w0 w' g s0_0 r2 r3∧Below w0.heap.size w0 w'∧KeepBut w w' g none:=by
 have HI0:=am hI
 have HK:=am (KeepBut.refl w g none)
 have HL:=am hB.size
 clear hI
 have HW0:=am hB.size
 have HB:=am hB
 clear hB
 have H:=h
 clear h
 unfold spec_l1Cur_next.f at H
 by_cases c2:s0_1<(s0_0.length:Int)
 rotate_left
 ·
  rw[if_neg c2]at H
  have c2b0:=decide_eq_false c2
  clear c2
  by_cases c7:(wrap64 (s0_1+1))≤(s0_0.length:Int)
  ·
   rw[if_pos c7]at H
   have c7b0:=decide_eq_true c7
   clear c7
   simp only[Option.some.injEq,Prod.mk.injEq]at H
   obtain⟨rfl,rfl,rfl⟩:=H
   obtain⟨ASz8_0,cSz8_0,HGz8,hgz8,HSz8_0⟩:=HI0.1
   have hcz8_0:=cellS58_0 HGz8
   have hcz8_1:=cellS58_1 HGz8
   have hcz8_2:=cellS58_2 HGz8
   have hfz8_1:=blk_frozen HGz8 1
   have hfz8_2:=blk_frozen HGz8 2
   clear HGz8 hgz8
   go_enter Tryz.func86,Tryz.ntmps86
   go_wp2
   repeat(go_quiet (fail);try go_wp2)
   go_ret
   exact⟨Z6,(Z2 HI0),ZB,Z4⟩
  rw[if_neg c7]at H
  have c7b0:=decide_eq_false c7
  clear c7
  simp only[Option.some.injEq,Prod.mk.injEq]at H
  obtain⟨rfl,rfl,rfl⟩:=H
  obtain⟨ASz9_0,cSz9_0,HGz9,hgz9,HSz9_0⟩:=HI0.1
  have hcz9_0:=cellS58_0 HGz9
  have hcz9_1:=cellS58_1 HGz9
  have hcz9_2:=cellS58_2 HGz9
  have hfz9_1:=blk_frozen HGz9 1
  have hfz9_2:=blk_frozen HGz9 2
  clear HGz9 hgz9
  go_enter Tryz.func86,Tryz.ntmps86
  go_wp2
  repeat(go_quiet (fail);try go_wp2)
  go_ret
  exact⟨Z6,(Z2 HI0),ZB,Z4⟩
 rw[if_pos c2]at H
 have c2b0:=decide_eq_true c2
 clear c2
 obtain⟨c3,H⟩:=ip_ H
 have c3b0:=decide_eq_true c3
 clear c3
 by_cases c4:(wrap64 (s0_1+1))≤(s0_0.length:Int)
 ·
  rw[if_pos c4]at H
  have c4b0:=decide_eq_true c4
  clear c4
  simp only[Option.some.injEq,Prod.mk.injEq]at H
  obtain⟨rfl,rfl,rfl⟩:=H
  obtain⟨ASz5_0,cSz5_0,HGz5,hgz5,HSz5_0⟩:=HI0.1
  have hcz5_0:=cellS58_0 HGz5
  have hcz5_1:=cellS58_1 HGz5
  have hcz5_2:=cellS58_2 HGz5
  have hfz5_1:=blk_frozen HGz5 1
  have hfz5_2:=blk_frozen HGz5 2
  clear HGz5 hgz5
  have p107:0≤(s0_1:Int):=of_decide_eq_true Z5
  have q107:s0_1<(s0_0.length:Int):=of_decide_eq_true Z5
  obtain⟨ad107,e107,hx107_0⟩:=Kd.at_int HSz5_0 s0_1 p107 q107
  cases e107
  replace hx107_0:=pw_cell_below HB.1 hx107_0
  replace p107:=eq_true p107
  replace q107:=eq_true q107
  go_enter Tryz.func86,Tryz.ntmps86
  go_wp2
  repeat(go_quiet (fail);try go_wp2)
  go_ret
  exact⟨Z6,(Z2 HI0),ZB,Z4⟩
 rw[if_neg c4]at H
 have c4b0:=decide_eq_false c4
 clear c4
 simp only[Option.some.injEq,Prod.mk.injEq]at H
 obtain⟨rfl,rfl,rfl⟩:=H
 obtain⟨ASz6_0,cSz6_0,HGz6,hgz6,HSz6_0⟩:=HI0.1
 have hcz6_0:=cellS58_0 HGz6
 have hcz6_1:=cellS58_1 HGz6
 have hcz6_2:=cellS58_2 HGz6
 have hfz6_1:=blk_frozen HGz6 1
 have hfz6_2:=blk_frozen HGz6 2
 clear HGz6 hgz6
 have p107:0≤(s0_1:Int):=of_decide_eq_true Z5
 have q107:s0_1<(s0_0.length:Int):=of_decide_eq_true Z5
 obtain⟨ad107,e107,hx107_0⟩:=Kd.at_int HSz6_0 s0_1 p107 q107
 cases e107
 replace hx107_0:=pw_cell_below HB.1 hx107_0
 replace p107:=eq_true p107
 replace q107:=eq_true q107
 go_enter Tryz.func86,Tryz.ntmps86
 go_wp2
 repeat(go_quiet (fail);try go_wp2)
 go_ret
 exact⟨Z6,(Z2 HI0),ZB,Z4⟩
def spec_l1Cur_pick.f (s0_0:List Int) (s0_1:Int) (s0_2:Int) (a1:Int):Option (Int × Int × Int):=if a1≤1 then(some (0,s0_1,s0_2))else((spec_l1Cur_next.f s0_0 s0_1 s0_2).bind fun bt108=>(if a1>200 then((spec_l1Cur_next.f s0_0 bt108.2.1 bt108.2.2).bind fun bt111=>(if a1=0 then(none)else(some (Int.tmod (wrap64 ((wrap64 (bt108.1*256))+bt111.1)) a1,bt111.2.1,bt111.2.2))))else(if a1=0 then(none)else(some (Int.tmod bt108.1 a1,bt108.2.1,bt108.2.2)))))
set_option maxHeartbeats 8000000 in
set_option maxRecDepth 100000 in
theorem spec_l1Cur_pick.calls (g:Nat) (s0_0:List Int) (s0_1:Int) (s0_2:Int) (a1:Int) (r1:Int) (r2:Int) (r3:Int) (w0 w:World) (hI:IsS58 w0 w g s0_0 s0_1 s0_2) (hB:Below w0.heap.size w0 w) (h:spec_l1Cur_pick.f s0_0 s0_1 s0_2 a1=some (r1,r2,r3)):
  Calls Tryz.prog 56 #[.pointer (some ⟨g,0,none⟩),.int .i64 a1] w fun e w'=>e= .returned (.int .i64 r1)∧IsS58 w0 w' g s0_0 r2 r3∧Below w0.heap.size w0 w'∧KeepBut w w' g none:=by
 have HI0:=am hI
 have HK:=am (KeepBut.refl w g none)
 have HL:=am hB.size
 clear hI
 have HW0:=am hB.size
 have HB:=am hB
 clear hB
 have H:=h
 clear h
 unfold spec_l1Cur_pick.f at H
 by_cases c3:a1≤1
 ·
  rw[if_pos c3]at H
  have c3b0:=decide_eq_true c3
  clear c3
  simp only[Option.some.injEq,Prod.mk.injEq]at H
  obtain⟨rfl,rfl,rfl⟩:=H
  go_enter Tryz.func56,Tryz.ntmps56
  go_wp2
  go_ret
  exact⟨Z6,(Z2 HI0),ZB,Z4⟩
 rw[if_neg c3]at H
 have c3b0:=decide_eq_false c3
 clear c3
 obtain⟨⟨t108,t109,t110⟩,A4,H⟩:=bs_ H
 try dsimp only at H
 by_cases c5:a1>200
 rotate_left
 ·
  rw[if_neg c5]at H
  have c5b0:decide (200<a1)=false:=decide_eq_false c5
  clear c5
  by_cases c10:a1=0
  ·
   rw[if_pos c10]at H
   exact absurd H (by simp)
  rw[if_neg c10]at H
  obtain⟨c10b0,c10b1⟩:=ne2_ c10
  simp only[Option.some.injEq,Prod.mk.injEq]at H
  obtain⟨rfl,rfl,rfl⟩:=H
  go_enter Tryz.func56,Tryz.ntmps56
  go_wp2_with (first|((with_reducible refine gc_ 86 rfl ?_);refine gM_ (some 9) Tryz.func86 (spec_l1Cur_next.calls g s0_0 s0_1 s0_2 t108 t109 t110 w0 _ ?side1 ?side2 A4.1) ?_;(case side1=>exact(Z2 HI0));(case side2=>exact ZB);rintro w11 ⟨hi,hb,hk⟩;replace HK:=am (KeepBut.trans Z4 hk (.inl rfl));replace HB:=am hb;replace HI0:=am hi;clear hb hk hi))
  go_ret
  exact⟨Z6,(Z2 HI0),ZB,Z4⟩
 rw[if_pos c5]at H
 have c5b0:decide (200<a1)=true:=decide_eq_true c5
 clear c5
 obtain⟨⟨t111,t112,t113⟩,A6,H⟩:=bs_ H
 try dsimp only at H
 by_cases c7:a1=0
 ·
  rw[if_pos c7]at H
  exact absurd H (by simp)
 rw[if_neg c7]at H
 obtain⟨c7b0,c7b1⟩:=ne2_ c7
 simp only[Option.some.injEq,Prod.mk.injEq]at H
 obtain⟨rfl,rfl,rfl⟩:=H
 go_enter Tryz.func56,Tryz.ntmps56
 go_wp2_with (first|((with_reducible refine gc_ 86 rfl ?_);refine gM_ (some 9) Tryz.func86 (spec_l1Cur_next.calls g s0_0 s0_1 s0_2 t108 t109 t110 w0 _ ?side1 ?side2 A4.1) ?_;(case side1=>exact(Z2 HI0));(case side2=>exact ZB);rintro w8 ⟨hi,hb,hk⟩;replace HK:=am (KeepBut.trans Z4 hk (.inl rfl));replace HB:=am hb;replace HI0:=am hi;clear hb hk hi)|((with_reducible refine gc_ 86 rfl ?_);refine gM_ (some 15) Tryz.func86 (spec_l1Cur_next.calls g s0_0 t109 t110 t111 t112 t113 w0 _ ?side1 ?side2 A6.1) ?_;(case side1=>exact(Z2 HI0));(case side2=>exact ZB);rintro w9 ⟨hi,hb,hk⟩;replace HK:=am (KeepBut.trans Z4 hk (.inl rfl));replace HB:=am hb;replace HI0:=am hi;clear hb hk hi))
 go_ret
 exact⟨Z6,(Z2 HI0),ZB,Z4⟩
def spec_l1Cur_one.f (s0_0:List Int) (s0_1:Int) (s0_2:Int) (a1:Int):Option (Bool × Int × Int):=(spec_l1Cur_pick.f s0_0 s0_1 s0_2 a1).bind fun bt114=>(some ((bt114.1==0),bt114.2.1,bt114.2.2))
set_option maxHeartbeats 8000000 in
set_option maxRecDepth 100000 in
theorem spec_l1Cur_one.calls (g:Nat) (s0_0:List Int) (s0_1:Int) (s0_2:Int) (a1:Int) (r1:Bool) (r2:Int) (r3:Int) (w0 w:World) (hI:IsS58 w0 w g s0_0 s0_1 s0_2) (hB:Below w0.heap.size w0 w) (h:spec_l1Cur_one.f s0_0 s0_1 s0_2 a1=some (r1,r2,r3)):
  Calls Tryz.prog 28 #[.pointer (some ⟨g,0,none⟩),.int .i64 a1] w fun e w'=>e= .returned (.bool r1)∧IsS58 w0 w' g s0_0 r2 r3∧Below w0.heap.size w0 w'∧KeepBut w w' g none:=by
 have HI0:=am hI
 have HK:=am (KeepBut.refl w g none)
 have HL:=am hB.size
 clear hI
 have HW0:=am hB.size
 have HB:=am hB
 clear hB
 have H:=h
 clear h
 unfold spec_l1Cur_one.f at H
 obtain⟨⟨t114,t115,t116⟩,A3,H⟩:=bs_ H
 try dsimp only at H
 simp only[Option.some.injEq,Prod.mk.injEq]at H
 obtain⟨rfl,rfl,rfl⟩:=H
 go_enter Tryz.func28,Tryz.ntmps28
 go_wp2_with (first|((with_reducible refine gc_ 56 rfl ?_);refine gM_ (some 7) Tryz.func56 (spec_l1Cur_pick.calls g s0_0 s0_1 s0_2 a1 t114 t115 t116 w0 _ ?side1 ?side2 A3.1) ?_;(case side1=>exact(Z2 HI0));(case side2=>exact ZB);rintro w4 ⟨hi,hb,hk⟩;replace HK:=am (KeepBut.trans Z4 hk (.inl rfl));replace HB:=am hb;replace HI0:=am hi;clear hb hk hi))
 go_ret
 exact⟨Z6,(Z2 HI0),ZB,Z4⟩
def spec_l1Cur_among.f (s0_0:List Int) (s0_1:Int) (s0_2:Int) (l1:List Int):Option (Int × Int × Int):=(spec_l1Cur_pick.f s0_0 s0_1 s0_2 (l1.length:Int)).bind fun bt117=>(if 0≤bt117.1 then(if bt117.1<(l1.length:Int)then(some (rd l1 bt117.1,bt117.2.1,bt117.2.2))else(none))else(none))
set_option maxHeartbeats 8000000 in
set_option maxRecDepth 100000 in
theorem spec_l1Cur_among.calls (g:Nat) (s0_0:List Int) (s0_1:Int) (s0_2:Int) (A1:Option Addr) (c1:Nat) (l1:List Int) (r1:Int) (r2:Int) (r3:Int) (w0 w:World) (hI:IsS58 w0 w g s0_0 s0_1 s0_2) (hB:Below w0.heap.size w0 w) (hr1:Kd.C (Kd.int .i64) w A1 l1.length l1) (hc1:l1.length≤c1) (hf1:∀ad,A1=some ad→0<l1.length→ad.block≠g) (h:spec_l1Cur_among.f s0_0 s0_1 s0_2 l1=some (r1,r2,r3)):
  Calls Tryz.prog 31 #[.pointer (some ⟨g,0,none⟩),.slice A1 l1.length c1] w fun e w'=>e= .returned (.int .i64 r1)∧IsS58 w0 w' g s0_0 r2 r3∧Below w0.heap.size w0 w'∧KeepBut w w' g none:=by
 have HR1:=am hr1
 have HC1:=am hc1
 clear hr1 hc1
 have HI0:=am hI
 have HK:=am (KeepBut.refl w g none)
 have HL:=am hB.size
 clear hI
 have HW0:=am hB.size
 have HB:=am hB
 clear hB
 have H:=h
 clear h
 unfold spec_l1Cur_among.f at H
 obtain⟨⟨t117,t118,t119⟩,A3,H⟩:=bs_ H
 try dsimp only at H
 obtain⟨c4,H⟩:=ip_ H
 have c4b0:=decide_eq_true c4
 clear c4
 obtain⟨c5,H⟩:=ip_ H
 have c5b0:=decide_eq_true c5
 clear c5
 simp only[Option.some.injEq,Prod.mk.injEq]at H
 obtain⟨rfl,rfl,rfl⟩:=H
 go_enter Tryz.func31,Tryz.ntmps31
 go_wp2_with (first|((with_reducible refine gc_ 56 rfl ?_);refine gM_ (some 9) Tryz.func56 (spec_l1Cur_pick.calls g s0_0 s0_1 s0_2 (l1.length:Int) t117 t118 t119 w0 _ ?side1 ?side2 A3.1) ?_;(case side1=>exact(Z2 HI0));(case side2=>exact ZB);rintro w6 ⟨hi,hb,hk⟩;replace HK:=am (KeepBut.trans Z4 hk (.inl rfl));replace HB:=am hb;replace HI0:=am hi;clear hb hk hi;have p120:0≤(t117:Int):=of_decide_eq_true Z5;have q120:t117<(l1.length:Int):=of_decide_eq_true Z5;obtain⟨ad120,e120,hx120_0⟩:=Kd.at_int HR1.1 t117 p120 q120;cases e120;replace hx120_0:=keep_cell HK.1 hx120_0 (by first|(rw[add_block];exact hf1 _ rfl (by omega))|exact hf1 _ rfl (by omega)|exact hf1 ad120 rfl (by omega));replace p120:=eq_true p120;replace q120:=eq_true q120))
 go_ret
 exact⟨Z6,(Z2 HI0),ZB,Z4⟩
def spec_ciSwap.l0:Nat→List (S37)→Int→List (S37)→List (S37)→Int→Int→Int→Int→Int→Int→Option ((List (S37)))
  |0,_,_,_,_,_,_,_,_,_,_=>none
  |k+1,x0,x1,x5,x14,x15,x16,x128000,x128001,x128002,x128003=>if x16<x15 then(if 0≤x16 then(if x16<(x14.length:Int)then(if x16=x1 then(spec_ciSwap.l0 k x0 x1 x5 x14 x15 (wrap64 (x16+1)) x128000 x128001 x128002 x128003)else(spec_ciSwap.l0 k x0 x1 x5 x14 x15 (wrap64 (x16+1)) (wrap64 (x128000+((rd_T37 x14 x16).f0))) (wrap64 (x128001+((rd_T37 x14 x16).f1))) (wrap64 (x128002+((rd_T37 x14 x16).f2))) (wrap64 (x128003+((rd_T37 x14 x16).f3)))))else(none))else(none))else(if 0≤x1 then(if x1<(x0.length:Int)then(if x1<(x5.length:Int)then(some (x5.set (x1:Int).toNat (⟨wrap64 ((wrap64 (2*x128000))-((rd_T37 x0 x1).f0)),wrap64 ((wrap64 (2*x128001))-((rd_T37 x0 x1).f1)),wrap64 ((wrap64 (2*x128002))-((rd_T37 x0 x1).f2)),wrap64 ((wrap64 (2*x128003))-((rd_T37 x0 x1).f3))⟩:S37)))else(none))else(none))else(none))
def spec_ciSwap.f (k:Nat) (l0:List (S37)) (a1:Int):Option ((List (S37))):=(some (([]:List (S37)):List (S37))).bind fun y121=>(if y121.length+l0.length<4398046511104 then(spec_ciSwap.l0 k l0 a1 (y121++l0) l0 (l0.length:Int) 0 0 0 0 0)else(none))
theorem spec_ciSwap.mono_l:∀k,(∀y0 y1 y2 y3 y4 y5 y6 y7 y8 y9,LeO (spec_ciSwap.l0 k y0 y1 y2 y3 y4 y5 y6 y7 y8 y9) (spec_ciSwap.l0 (k+1) y0 y1 y2 y3 y4 y5 y6 y7 y8 y9))
  |0=>fun _ _ _ _ _ _ _ _ _ _ r h=>by simp[spec_ciSwap.l0]at h
  |k+1=>by
    have ih0:=spec_ciSwap.mono_l k
    · intro y0 y1 y2 y3 y4 y5 y6 y7 y8 y9
      unfold spec_ciSwap.l0
      exact mo_
theorem spec_ciSwap.mono:∀a0 a1 k,LeO (spec_ciSwap.f k a0 a1) (spec_ciSwap.f (k+1) a0 a1):=by
  intro a0 a1 k
  have ih0:=spec_ciSwap.mono_l k
  unfold spec_ciSwap.f
  exact mo_
set_option maxHeartbeats 8000000 in
set_option maxRecDepth 100000 in
theorem spec_ciSwap.calls (k:Nat) (A0:Option Addr) (c0:Nat) (l0:List (S37)) (a1:Int) (r:List (S37)) (w:World) (hr0:Kd.C k37 w A0 l0.length l0) (hc0:l0.length≤c0) (h:spec_ciSwap.f k l0 a1=some r):
  Calls Tryz.prog 46 #[.slice A0 l0.length c0,.int .i64 a1] w fun e w'=>∃v0_:Value,e= .returned (v0_)∧Kd.R k37 37 w' w.heap.size (fun _=>True) v0_ r∧Below w.heap.size w w':=by
 have hu37:=Tryz.underlying37
 have HR0:=am hr0
 have HC0:=am hc0
 clear hr0 hc0
 have HB:=am (Below.refl w.heap.size w)
 have H:=h
 clear h
 unfold spec_ciSwap.f at H
 obtain⟨y_a,hy_a⟩:∃y_:List (S37),y_=(([]:List (S37))):=⟨_,rfl⟩
 replace H:(if y_a.length+l0.length<4398046511104 then(spec_ciSwap.l0 k l0 a1 (y_a++l0) l0 (l0.length:Int) 0 0 0 0 0)else(none))=some r:=Z8
 have Ny_a:=am hy_a
 clear hy_a
 obtain⟨c3,H⟩:=ip_ H
 have LMc3:=am c3
 clear c3
 obtain⟨y_b,hy_b⟩:∃y_:List (S37),y_=(y_a++l0):=⟨_,rfl⟩
 replace H:(spec_ciSwap.l0 k l0 a1 y_b l0 (l0.length:Int) 0 0 0 0 0)=some r:=Z14
 have Ny_b:=am hy_b
 clear hy_b
 have H':=am H
 clear H
 go_enter Tryz.func46,Tryz.ntmps46
 go_wp2_with (first|((with_reducible refine gd_ 10 rfl ?_);refine Kd.R_lit k37 _ 37 ?hg (N:=10) ?hd (xs:=([]:List (S37))) (inner:=[]) (ok:=fun _=>True) (okp:=fun _=>True) ?hr ?hp (fun _ hk=>hk) trivial (Below.refl _ _) (Nat.le_refl _) (by simp) ?_;(case hd=>rfl);(case hg=>rfl);(case hr=>first|(go_simp;done)|(go_simp;rfl));(case hp=>exact(Reps.none _ _));intro v122 w4 ho5 hb hg_ hnew_;clear hg_ hnew_;(first|rw[←Ny_a.1]at ho5|(simp only[Int.reduceToNat]at ho5;rw[←Ny_a.1]at ho5));have HOoe:=am (Kd.R_lower ho5 zs_);replace HB:=bw_ hb;clear hb ho5)|((with_reducible refine gate_builtin (b:= .append) (xs:=#[.tmp 10,.tmp 11]) rfl ?_);at_builtin;refine Kd.R_append_rows k37 (w0:=w) w.heap.size rfl (.tmp 10) (.tmp 11) 24 37 (.agg #[(.int .i64 0),(.int .i64 0),(.int .i64 0),(.int .i64 0)]) 32 rfl Tryz.underlying24 info37 rfl (by decide) (by omega) v122 y_a l0 _ _ _ (fun _=>True) (fun _=>False) rfl rfl ?aO ?aR (fun _ _ h=>h) (fun _ h=>h.elim) ?aF ?aB ?aS ?aL ?_;(case aR=>exact(Z15 HR0));(case aB=>exact ZB);(case aF=>exact(fun _ _=>trivial));(case aO=>exact(Z1 HOoe));(case aS=>exact zs_);(case aL=>have:=LMc3.out;omega);intro v125 w6 ho hb hg hat;rw[←Ny_b.1]at ho;replace HB:=am hb;have HOof:=am ho;clear HOoe;clear ho hb hg hat)|((with_reducible refine gd_ 6 rfl ?_);refine boxN_ 6 #[.int .i64 0,.int .i64 0,.int .i64 0,.int .i64 0] 37 ?_;intro gboa hg w7 hbox hb;replace HOof:=am (Kd.R_below (Kd.R_elderB (Z1 HOof) gboa (Nat.le_of_eq hg.symm)) hb);have BKoa:=am hbox;have GWoa:=gG_ hg;have GEoa:=gG_ hg;replace HB:=bw_ hb;clear hb hbox hg;obtain⟨_,_,_,_,_,_,_,_⟩:=cz4_ BKoa))
 go_loopg [16] k (fun kq v16 w'=>∃(x16_1:Int) (x128000_1:Int) (x128001_1:Int) (x128002_1:Int) (x128003_1:Int),v16= .int .i64 x16_1∧Aside0 (spec_ciSwap.l0 kq l0 a1 y_b l0 (l0.length:Int) x16_1 x128000_1 x128001_1 x128002_1 x128003_1=some r)∧Aside0 (kq≤k)∧Aside0 (Kd.R k37 37 w' w.heap.size (fun k_=>k_≠gboa) v125 y_b)∧Aside0 (w'.heap[gboa]?=some (.cells #[.int .i64 x128000_1,.int .i64 x128001_1,.int .i64 x128002_1,.int .i64 x128003_1] 37 (0,0)))∧Aside0 (Below w.heap.size w w'))
 case atStart=>exact⟨(0),(0),(0),(0),(0),Z7,H',⟨Nat.le_refl _⟩,⟨(by(with_reducible repeat(first|apply Kd.R_alloc|apply Kd.R_drewN|apply Kd.R_drew));exact Kd.R_mono (Kd.R_far (p:=⟨gboa,3,none⟩) (Kd.R_far (p:=⟨gboa,2,none⟩) (Kd.R_far (p:=⟨gboa,1,none⟩) (Kd.R_far (p:=⟨gboa,0,none⟩) (Kd.R_mono HOof.1 (fun k_ hk=>(⟨hk,hk.2⟩:_∧k_≠gboa))) (fun _ hk=>hk.2) (.int .i64 0)) (fun _ hk=>hk.2) (.int .i64 0)) (fun _ hk=>hk.2) (.int .i64 0)) (fun _ hk=>hk.2) (.int .i64 0)) (fun _ hk=>hk.1.2))⟩,⟨(bb_ BKoa)⟩,⟨ZB⟩⟩
 clear H'
 obtain⟨x16_1,x128000_1,x128001_1,x128002_1,x128003_1,rfl,HA,HK1,HO_5,BKoa,HB⟩:=hrel
 obtain _|k1:=gk
 ·
  exact absurd HA.out (by simp[spec_ciSwap.l0])
 have H:=HA.out
 clear HA
 simp only[spec_ciSwap.l0]at H
 by_cases c9:x16_1<(l0.length:Int)
 ·
  rw[if_pos c9]at H
  have c9b0:=decide_eq_true c9
  clear c9
  obtain⟨c10,H⟩:=ip_ H
  have c10b0:=decide_eq_true c10
  clear c10
  obtain⟨c11,H⟩:=ip_ H
  have c11b0:=decide_eq_true c11
  clear c11
  by_cases c12:x16_1=a1
  ·
   rw[if_pos c12]at H
   obtain⟨c12b0,c12b1⟩:=eq2_ c12
   clear c12
   have H':=am H
   clear H
   have p128:0≤(x16_1:Int):=of_decide_eq_true Z5
   have q128:x16_1<(l0.length:Int):=of_decide_eq_true Z5
   obtain⟨ad128,e128,hx128_0,hx128_1,hx128_2,hx128_3⟩:=at_T37 HR0.1 x16_1 p128 q128
   cases e128
   replace hx128_0:=(HB.1.cell (World.block_lt_of_cell? w _ hx128_0)).trans hx128_0
   replace hx128_1:=(HB.1.cell (World.block_lt_of_cell? w _ hx128_1)).trans hx128_1
   replace hx128_2:=(HB.1.cell (World.block_lt_of_cell? w _ hx128_2)).trans hx128_2
   replace hx128_3:=(HB.1.cell (World.block_lt_of_cell? w _ hx128_3)).trans hx128_3
   replace p128:=eq_true p128
   replace q128:=eq_true q128
   go_wp2_with (first|((with_reducible refine gd_ 8 rfl ?_);refine boxN_ 8 #[.int .i64 0,.int .i64 0,.int .i64 0,.int .i64 0] 37 ?_;intro gbob hg w13 hbox hb;replace HO_5:=am (Kd.R_below (Kd.R_elderB (Z1 HO_5) gbob (Nat.le_of_eq hg.symm)) hb);have BKob:=am hbox;have GWob:=gG_ hg;have GEob:=gG_ hg;replace HB:=bw_ hb;have NBoa_ob:=nl_ BKoa hg;have NBob_oa:=ng_ BKoa hg;replace BKoa:=bk_ BKoa hb;clear hb hbox hg;have hnb14:=NBob_oa.1;have hnc14:=NBoa_ob.1;obtain⟨_,_,_,_,_,_,_,_⟩:=cz4_ BKob))
   go_roundg k1
   case measure=>have:=HK1.1;omega
   exact⟨(wrap64 (x16_1+1)),(x128000_1),(x128001_1),(x128002_1),(x128003_1),Z7,H',⟨Z34⟩,⟨(by(with_reducible repeat(first|apply Kd.R_alloc|apply Kd.R_drewN|apply Kd.R_drew));exact Kd.R_mono (Kd.R_far (p:=⟨gbob,3,none⟩) (Kd.R_far (p:=⟨gbob,2,none⟩) (Kd.R_far (p:=⟨gbob,1,none⟩) (Kd.R_far (p:=⟨gbob,0,none⟩) (Kd.R_mono HO_5.1 (fun k_ hk=>(⟨hk,hk.2⟩:_∧k_≠gbob))) (fun _ hk=>hk.2) (.int .i64 ((rd_T37 l0 x16_1).f0))) (fun _ hk=>hk.2) (.int .i64 ((rd_T37 l0 x16_1).f1))) (fun _ hk=>hk.2) (.int .i64 ((rd_T37 l0 x16_1).f2))) (fun _ hk=>hk.2) (.int .i64 ((rd_T37 l0 x16_1).f3))) (fun _ hk=>hk.1.1))⟩,⟨(bb_ BKoa)⟩,⟨ZB⟩⟩
  rw[if_neg c12]at H
  obtain⟨c12b0,c12b1⟩:=ne2_ c12
  have H':=am H
  clear H
  have p128:0≤(x16_1:Int):=of_decide_eq_true Z5
  have q128:x16_1<(l0.length:Int):=of_decide_eq_true Z5
  obtain⟨ad128,e128,hx128_0,hx128_1,hx128_2,hx128_3⟩:=at_T37 HR0.1 x16_1 p128 q128
  cases e128
  replace hx128_0:=(HB.1.cell (World.block_lt_of_cell? w _ hx128_0)).trans hx128_0
  replace hx128_1:=(HB.1.cell (World.block_lt_of_cell? w _ hx128_1)).trans hx128_1
  replace hx128_2:=(HB.1.cell (World.block_lt_of_cell? w _ hx128_2)).trans hx128_2
  replace hx128_3:=(HB.1.cell (World.block_lt_of_cell? w _ hx128_3)).trans hx128_3
  replace p128:=eq_true p128
  replace q128:=eq_true q128
  go_wp2_with (first|((with_reducible refine gd_ 8 rfl ?_);refine boxN_ 8 #[.int .i64 0,.int .i64 0,.int .i64 0,.int .i64 0] 37 ?_;intro gbob hg w16 hbox hb;replace HO_5:=am (Kd.R_below (Kd.R_elderB (Z1 HO_5) gbob (Nat.le_of_eq hg.symm)) hb);have BKob:=am hbox;have GWob:=gG_ hg;have GEob:=gG_ hg;replace HB:=bw_ hb;have NBoa_ob:=nl_ BKoa hg;have NBob_oa:=ng_ BKoa hg;replace BKoa:=bk_ BKoa hb;clear hb hbox hg;have hnb17:=NBob_oa.1;have hnc17:=NBoa_ob.1;obtain⟨_,_,_,_,_,_,_,_⟩:=cz4_ BKob;obtain⟨_,_,_,_,_,_,_,_⟩:=cz4_ BKoa))
  go_roundg k1
  case measure=>have:=HK1.1;omega
  exact⟨(wrap64 (x16_1+1)),(wrap64 (x128000_1+((rd_T37 l0 x16_1).f0))),(wrap64 (x128001_1+((rd_T37 l0 x16_1).f1))),(wrap64 (x128002_1+((rd_T37 l0 x16_1).f2))),(wrap64 (x128003_1+((rd_T37 l0 x16_1).f3))),Z7,H',⟨Z34⟩,⟨(by(with_reducible repeat(first|apply Kd.R_alloc|apply Kd.R_drewN|apply Kd.R_drew));exact Kd.R_mono (Kd.R_far (p:=⟨gboa,3,none⟩) (Kd.R_far (p:=⟨gboa,2,none⟩) (Kd.R_far (p:=⟨gboa,1,none⟩) (Kd.R_far (p:=⟨gboa,0,none⟩) (Kd.R_far (p:=⟨gbob,3,none⟩) (Kd.R_far (p:=⟨gbob,2,none⟩) (Kd.R_far (p:=⟨gbob,1,none⟩) (Kd.R_far (p:=⟨gbob,0,none⟩) (Kd.R_mono (Kd.R_mono HO_5.1 (fun k_ hk=>(⟨hk,hk.2⟩:_∧k_≠gbob))) (fun k_ hk=>(⟨hk,hk.1.1⟩:_∧k_≠gboa))) (fun _ hk=>hk.1.2) (.int .i64 ((rd_T37 l0 x16_1).f0))) (fun _ hk=>hk.1.2) (.int .i64 ((rd_T37 l0 x16_1).f1))) (fun _ hk=>hk.1.2) (.int .i64 ((rd_T37 l0 x16_1).f2))) (fun _ hk=>hk.1.2) (.int .i64 ((rd_T37 l0 x16_1).f3))) (fun _ hk=>hk.2) (.int .i64 (wrap64 (x128000_1+((rd_T37 l0 x16_1).f0))))) (fun _ hk=>hk.2) (.int .i64 (wrap64 (x128001_1+((rd_T37 l0 x16_1).f1))))) (fun _ hk=>hk.2) (.int .i64 (wrap64 (x128002_1+((rd_T37 l0 x16_1).f2))))) (fun _ hk=>hk.2) (.int .i64 (wrap64 (x128003_1+((rd_T37 l0 x16_1).f3))))) (fun _ hk=>hk.1.1.1))⟩,⟨(bb_ BKoa)⟩,⟨ZB⟩⟩
 rw[if_neg c9]at H
 have c9b0:=decide_eq_false c9
 clear c9
 obtain⟨c20,H⟩:=ip_ H
 have c20b0:=decide_eq_true c20
 clear c20
 obtain⟨c21,H⟩:=ip_ H
 have c21b0:=decide_eq_true c21
 clear c21
 obtain⟨c22,H⟩:=ip_ H
 have c22b0:=decide_eq_true c22
 clear c22
 obtain⟨y_c,hy_c⟩:∃y_:List (S37),y_=(y_b.set (a1:Int).toNat (⟨wrap64 ((wrap64 (2*x128000_1))-((rd_T37 l0 a1).f0)),wrap64 ((wrap64 (2*x128001_1))-((rd_T37 l0 a1).f1)),wrap64 ((wrap64 (2*x128002_1))-((rd_T37 l0 a1).f2)),wrap64 ((wrap64 (2*x128003_1))-((rd_T37 l0 a1).f3))⟩:S37)):=⟨_,rfl⟩
 replace H:(some y_c)=some r:=Z24
 have Ny_c:=am hy_c
 clear hy_c
 obtain rfl:=Option.some.inj H
 have p130:0≤(a1:Int):=of_decide_eq_true Z5
 have q130:a1<(l0.length:Int):=of_decide_eq_true Z5
 obtain⟨ad130,e130,hx130_0,hx130_1,hx130_2,hx130_3⟩:=at_T37 HR0.1 a1 p130 q130
 cases e130
 replace hx130_0:=(HB.1.cell (World.block_lt_of_cell? w _ hx130_0)).trans hx130_0
 replace hx130_1:=(HB.1.cell (World.block_lt_of_cell? w _ hx130_1)).trans hx130_1
 replace hx130_2:=(HB.1.cell (World.block_lt_of_cell? w _ hx130_2)).trans hx130_2
 replace hx130_3:=(HB.1.cell (World.block_lt_of_cell? w _ hx130_3)).trans hx130_3
 replace p130:=eq_true p130
 replace q130:=eq_true q130
 go_wp2_with (first|((with_reducible refine gd_ 9 rfl ?_);refine boxN_ 9 #[.int .i64 0,.int .i64 0,.int .i64 0,.int .i64 0] 37 ?_;intro gboc hg w24 hbox hb;replace HO_5:=am (Kd.R_below (Kd.R_elderB (Z1 HO_5) gboc (Nat.le_of_eq hg.symm)) hb);have BKoc:=am hbox;have GWoc:=gG_ hg;have GEoc:=gG_ hg;replace HB:=bw_ hb;have NBoa_oc:=nl_ BKoa hg;have NBoc_oa:=ng_ BKoa hg;replace BKoa:=bk_ BKoa hb;clear hb hbox hg;have hnb25:=NBoc_oa.1;have hnc25:=NBoa_oc.1;obtain⟨_,_,_,_,_,_,_,_⟩:=cz4_ BKoc)|((with_reducible refine gate_store (t:=37) (p:=9) rfl ?_);refine store_event (t:=37) (p:=9) (v:=?vo_w27) (w1:=((((w24.setCell ⟨gboc,0,none⟩ (.int .i64 ((rd_T37 l0 a1).f0))).setCell ⟨gboc,1,none⟩ (.int .i64 ((rd_T37 l0 a1).f1))).setCell ⟨gboc,2,none⟩ (.int .i64 ((rd_T37 l0 a1).f2))).setCell ⟨gboc,3,none⟩ (.int .i64 ((rd_T37 l0 a1).f3)))) ?hg ?ho ?hn ?hr ?_;(case ho=>rfl);(case hg=>rfl);(case hn=>rfl);(case hr=>first|(go_simp;done)|(go_simp;rfl));intro w27 hw;have n0_:Aside0 (Kd.R k37 37 w27 w.heap.size (fun k_=>k_≠gboa∧k_≠gboc) v125 y_b):=⟨(by rw[hw];exact(by(with_reducible repeat(first|apply Kd.R_alloc|apply Kd.R_drewN|apply Kd.R_drew));exact Kd.R_mono (Kd.R_far (p:=⟨gboc,3,none⟩) (Kd.R_far (p:=⟨gboc,2,none⟩) (Kd.R_far (p:=⟨gboc,1,none⟩) (Kd.R_far (p:=⟨gboc,0,none⟩) (Kd.R_mono HO_5.1 (fun k_ hk=>(⟨hk,hk.2⟩:_∧k_≠gboc))) (fun _ hk=>hk.2) (.int .i64 ((rd_T37 l0 a1).f0))) (fun _ hk=>hk.2) (.int .i64 ((rd_T37 l0 a1).f1))) (fun _ hk=>hk.2) (.int .i64 ((rd_T37 l0 a1).f2))) (fun _ hk=>hk.2) (.int .i64 ((rd_T37 l0 a1).f3))) (fun _ hk=>⟨hk.1.1,hk.1.2⟩)))⟩;have n1_:Aside0 (w27.heap[gboa]?=some (.cells #[.int .i64 x128000_1,.int .i64 x128001_1,.int .i64 x128002_1,.int .i64 x128003_1] 37 (0,0))):=⟨(by rw[hw];exact(bb_ BKoa))⟩;have n2_:Aside0 (w27.heap[gboc]?=some (.cells #[.int .i64 ((rd_T37 l0 a1).f0),.int .i64 ((rd_T37 l0 a1).f1),.int .i64 ((rd_T37 l0 a1).f2),.int .i64 ((rd_T37 l0 a1).f3)] 37 (0,0))):=⟨(by rw[hw];exact(bb_ BKoc))⟩;have n3_:Aside0 (Below w.heap.size w w27):=⟨(by rw[hw];exact ZB)⟩;clear hw;clear HO_5;clear BKoa;clear BKoc;clear HB;have HO_5:=n0_;have BKoa:=n1_;have BKoc:=n2_;have HB:=n3_;clear n0_ n1_ n2_ n3_;obtain⟨_,_,_,_,_,_,_,_⟩:=cz4_ BKoa;obtain⟨_,_,_,_,_,_,_,_⟩:=cz4_ BKoc;have p23:0≤(a1:Int):=of_decide_eq_true Z5;have q23:(a1:Int)<((y_b.length:Int):Int):=of_decide_eq_true Z5;obtain⟨go23,co23,eo23,gbod,gl23,cl23,HG23⟩:=Kd.R_form HO_5.1 (by omega);(first|cases eo23|(injection eo23 with ea_ en_ ec_;(first|subst ea_|(injection ea_ with ea_;subst ea_));subst ec_;clear en_));have GB23:=am gbod;have GG23:=am HG23;clear gbod gl23 HG23;obtain⟨ce23,hcl23,hM23,hcc23,hfr23⟩:=Kd.R_elem HO_5.1 z37 (a1:Int) p23 q23;obtain rfl:=k37_openM hM23;have hx23_0:w27.cell? ⟨go23,(a1:Int).toNat*4,none⟩=some (.int .i64 ((rd_T37 y_b a1).f0)):=hcc23 0 _ rfl;have hx23_1:w27.cell? ⟨go23,(a1:Int).toNat*4+1,none⟩=some (.int .i64 ((rd_T37 y_b a1).f1)):=hcc23 1 _ rfl;have hx23_2:w27.cell? ⟨go23,(a1:Int).toNat*4+2,none⟩=some (.int .i64 ((rd_T37 y_b a1).f2)):=hcc23 2 _ rfl;have hx23_3:w27.cell? ⟨go23,(a1:Int).toNat*4+3,none⟩=some (.int .i64 ((rd_T37 y_b a1).f3)):=hcc23 3 _ rfl;have hf23_0:w27.frozen? ⟨go23,(a1:Int).toNat*4,none⟩=false:=hfr23 0;have hf23_1:w27.frozen? ⟨go23,(a1:Int).toNat*4+1,none⟩=false:=hfr23 1;have hf23_2:w27.frozen? ⟨go23,(a1:Int).toNat*4+2,none⟩=false:=hfr23 2;have hf23_3:w27.frozen? ⟨go23,(a1:Int).toNat*4+3,none⟩=false:=hfr23 3;(try clear hcl23);(try clear hcc23);(try clear hfr23);(try clear hM23);replace p23:=eq_true p23;replace q23:=eq_true q23;have HX30:=am (show Kd.R k37 37 w27 w.heap.size (fun k_=>k_≠gboa∧k_≠gboc) (.slice (some ⟨go23,0,none⟩) y_b.length co23) y_b from(Z1 HO_5));obtain⟨ce30,hcl30,hM30,hcc30,hfr30⟩:=Kd.R_elem HX30.out z37 (a1:Int) (of_decide_eq_true Z5) (by have h_:(a1:Int)<((y_b.length:Int):Int):=of_decide_eq_true Z5;first|exact h_|(have e_:=(Kd.R_reads' HO_5.1).1;omega)|simpa using h_);obtain rfl:=k37_openM hM30;have HP30:=Kd.R_seg HX30.out (a1:Int) (of_decide_eq_true Z5) (by have h_:(a1:Int)<((y_b.length:Int):Int):=of_decide_eq_true Z5;first|exact h_|(have e_:=(Kd.R_reads' HO_5.1).1;omega)|simpa using h_) (seg:=[.int .i64 (wrap64 ((wrap64 (2*x128000_1))-((rd_T37 l0 a1).f0))),.int .i64 (wrap64 ((wrap64 (2*x128001_1))-((rd_T37 l0 a1).f1))),.int .i64 (wrap64 ((wrap64 (2*x128002_1))-((rd_T37 l0 a1).f2))),.int .i64 (wrap64 ((wrap64 (2*x128003_1))-((rd_T37 l0 a1).f3)))]) (j:=0) hcl30 hcc30 (show 4≤4 from by decide) (x':=(⟨wrap64 ((wrap64 (2*x128000_1))-((rd_T37 l0 a1).f0)),wrap64 ((wrap64 (2*x128001_1))-((rd_T37 l0 a1).f1)),wrap64 ((wrap64 (2*x128002_1))-((rd_T37 l0 a1).f2)),wrap64 ((wrap64 (2*x128003_1))-((rd_T37 l0 a1).f3))⟩:S37)) (k37_mkM _ _ _ (⟨wrap64 ((wrap64 (2*x128000_1))-((rd_T37 l0 a1).f0)),wrap64 ((wrap64 (2*x128001_1))-((rd_T37 l0 a1).f1)),wrap64 ((wrap64 (2*x128002_1))-((rd_T37 l0 a1).f2)),wrap64 ((wrap64 (2*x128003_1))-((rd_T37 l0 a1).f3))⟩:S37)) (fun _ hk=>hk);have hx30_0:=hcc30 0 _ rfl;(try simp only[show(k37).sz=4 from rfl,Nat.mul_one,Nat.add_zero]at hx30_0);have hf30_0:=hfr30 0;(try simp only[show(k37).sz=4 from rfl,Nat.mul_one,Nat.add_zero]at hf30_0);have hx30_1:=hcc30 1 _ rfl;(try simp only[show(k37).sz=4 from rfl,Nat.mul_one,Nat.add_zero]at hx30_1);have hf30_1:=hfr30 1;(try simp only[show(k37).sz=4 from rfl,Nat.mul_one,Nat.add_zero]at hf30_1);have hx30_2:=hcc30 2 _ rfl;(try simp only[show(k37).sz=4 from rfl,Nat.mul_one,Nat.add_zero]at hx30_2);have hf30_2:=hfr30 2;(try simp only[show(k37).sz=4 from rfl,Nat.mul_one,Nat.add_zero]at hf30_2);have hx30_3:=hcc30 3 _ rfl;(try simp only[show(k37).sz=4 from rfl,Nat.mul_one,Nat.add_zero]at hx30_3);have hf30_3:=hfr30 3;(try simp only[show(k37).sz=4 from rfl,Nat.mul_one,Nat.add_zero]at hf30_3);(try clear hcl30);(try clear hcc30);(try clear hfr30);(try clear hM30))|((with_reducible refine gate_store (t:=37) (p:=80) rfl ?_);refine store_event (t:=37) (p:=80) (v:=?vo_w31) (w1:=((((w27.setCell ⟨go23,(a1:Int).toNat*4,none⟩ (.int .i64 (wrap64 ((wrap64 (2*x128000_1))-((rd_T37 l0 a1).f0))))).setCell ⟨go23,(a1:Int).toNat*4+1,none⟩ (.int .i64 (wrap64 ((wrap64 (2*x128001_1))-((rd_T37 l0 a1).f1))))).setCell ⟨go23,(a1:Int).toNat*4+2,none⟩ (.int .i64 (wrap64 ((wrap64 (2*x128002_1))-((rd_T37 l0 a1).f2))))).setCell ⟨go23,(a1:Int).toNat*4+3,none⟩ (.int .i64 (wrap64 ((wrap64 (2*x128003_1))-((rd_T37 l0 a1).f3)))))) ?hg ?ho ?hn ?hr ?_;(case ho=>rfl);(case hg=>rfl);(case hn=>rfl);(case hr=>first|(go_simp;done)|(go_simp;rfl));intro w31 hw;have hg:w27.grownBy w31 (some go23):=(by rw[hw];exact HP30.2);have hp_:Kd.R k37 37 w31 w.heap.size (fun k_=>k_≠gboa∧k_≠gboc) (.slice (some ⟨go23,0,none⟩) y_b.length co23) y_c:=(by rw[hw,Ny_c.1];exact HP30.1);clear HP30;replace BKoa:=am (blk_grown (bb_ BKoa) hg (Kd.R_away HO_5.1 (fun _ hk=>hk.1)));replace BKoc:=am (blk_grown (bb_ BKoc) hg (Kd.R_away HO_5.1 (fun _ hk=>hk.2)));replace HO_5:=am hp_;replace HB:=am ((by rw[hw];exact below_set (below_set (below_set (below_set (HB.1) GB23.out) GB23.out) GB23.out) GB23.out:Below w.heap.size w w31));clear hg hw hp_))
 go_ret
 exact⟨_,Z6,(Z20 HO_5),ZB⟩
def spec_l1In.f (a0:Int) (a1:Int) (a2:Int):Option (Bool):=if a0≥a1 then(some (decide (a0≤a2)))else(some false)
set_option maxHeartbeats 8000000 in
set_option maxRecDepth 100000 in
theorem spec_l1In.calls (a0:Int) (a1:Int) (a2:Int) (r:Bool) (w:World) (h:spec_l1In.f a0 a1 a2=some r):
  Calls Tryz.prog 41 #[.int .i64 a0,.int .i64 a1,.int .i64 a2] w fun e w'=>e= .returned (.bool r)∧Drawn0 w w':=by
 have H:=h
 clear h
 unfold spec_l1In.f at H
 by_cases c4:a0≥a1
 ·
  rw[if_pos c4]at H
  have c4b0:decide (a1≤a0)=true:=decide_eq_true c4
  clear c4
  obtain rfl:=Option.some.inj H
  go_enter Tryz.func41,Tryz.ntmps41
  go_wp2
  go_ret
  exact⟨Z7,Z16⟩
 rw[if_neg c4]at H
 have c4b0:decide (a1≤a0)=false:=decide_eq_false c4
 clear c4
 obtain rfl:=Option.some.inj H
 go_enter Tryz.func41,Tryz.ntmps41
 go_wp2
 go_ret
 exact⟨Z7,Z16⟩
def spec_l1All.l0:Nat→Int→Int→List Int→Int→Int→Option (Bool)
  |0,_,_,_,_,_=>none
  |k+1,x1,x2,x9,x10,x11=>if x11<x10 then(if 0≤x11 then(if x11<(x9.length:Int)then((spec_l1In.f (rd x9 x11) x1 x2).bind fun t134=>(if t134=true then(spec_l1All.l0 k x1 x2 x9 x10 (wrap64 (x11+1)))else(some false)))else(none))else(none))else(some true)
def spec_l1All.f (k:Nat) (l0:List Int) (a1:Int) (a2:Int):Option (Bool):=spec_l1All.l0 k a1 a2 l0 (l0.length:Int) 0
theorem spec_l1All.mono_l:∀k,(∀y0 y1 y2 y3 y4,LeO (spec_l1All.l0 k y0 y1 y2 y3 y4) (spec_l1All.l0 (k+1) y0 y1 y2 y3 y4))
  |0=>fun _ _ _ _ _ r h=>by simp[spec_l1All.l0]at h
  |k+1=>by
    have ih0:=spec_l1All.mono_l k
    · intro y0 y1 y2 y3 y4
      unfold spec_l1All.l0
      exact mo_
theorem spec_l1All.mono:∀a0 a1 a2 k,LeO (spec_l1All.f k a0 a1 a2) (spec_l1All.f (k+1) a0 a1 a2):=by
  intro a0 a1 a2 k
  have ih0:=spec_l1All.mono_l k
  unfold spec_l1All.f
  exact mo_
set_option maxHeartbeats 8000000 in
set_option maxRecDepth 100000 in
theorem spec_l1All.calls (k:Nat) (A0:Option Addr) (c0:Nat) (l0:List Int) (a1:Int) (a2:Int) (r:Bool) (w:World) (hr0:Kd.C (Kd.int .i64) w A0 l0.length l0) (hc0:l0.length≤c0) (h:spec_l1All.f k l0 a1 a2=some r):
  Calls Tryz.prog 69 #[.slice A0 l0.length c0,.int .i64 a1,.int .i64 a2] w fun e w'=>e= .returned (.bool r)∧Drawn0 w w':=by
 have HR0:=am hr0
 have HC0:=am hc0
 clear hr0 hc0
 have H:(spec_l1All.l0 k a1 a2 l0 (l0.length:Int) 0)=some r:=h
 clear h
 have H':=am H
 clear H
 go_enter Tryz.func69,Tryz.ntmps69
 go_wp2
 go_loopg [11] k (fun kq v11 w'=>∃(x11_1:Int),v11= .int .i64 x11_1∧Aside0 (spec_l1All.l0 kq a1 a2 l0 (l0.length:Int) x11_1=some r)∧Aside0 (kq≤k)∧Drawn0 w w')
 case atStart=>exact⟨(0),Z7,H',⟨Nat.le_refl _⟩,Z16⟩
 clear H'
 obtain⟨x11_1,rfl,HA,HK1,⟨m1,rfl⟩⟩:=hrel
 obtain _|k1:=gk
 ·
  exact absurd HA.out (by simp[spec_l1All.l0])
 have H:=HA.out
 clear HA
 simp only[spec_l1All.l0]at H
 by_cases c4:x11_1<(l0.length:Int)
 rotate_left
 ·
  rw[if_neg c4]at H
  have c4b0:=decide_eq_false c4
  clear c4
  obtain rfl:=Option.some.inj H
  go_wp2
  go_ret
  exact⟨Z7,Z16⟩
 rw[if_pos c4]at H
 have c4b0:=decide_eq_true c4
 clear c4
 obtain⟨c5,H⟩:=ip_ H
 have c5b0:=decide_eq_true c5
 clear c5
 obtain⟨c6,H⟩:=ip_ H
 have c6b0:=decide_eq_true c6
 clear c6
 obtain⟨t134,A7,H⟩:=bs_ H
 try dsimp only at H
 by_cases c8:t134=true
 ·
  subst c8
  rw[if_pos rfl]at H
  have H':=am H
  clear H
  have p133:0≤(x11_1:Int):=of_decide_eq_true Z5
  have q133:x11_1<(l0.length:Int):=of_decide_eq_true Z5
  obtain⟨ad133,e133,hx133_0⟩:=Kd.at_int HR0.1 x11_1 p133 q133
  cases e133
  replace p133:=eq_true p133
  replace q133:=eq_true q133
  go_wp2_with (first|((with_reducible refine gc_ 41 rfl ?_);refine goesN_ 41 (some 18) Tryz.func41 #[.int .i64 (rd l0 x11_1),.int .i64 a1,.int .i64 a2] ?_;(with_reducible refine(spec_l1In.calls (rd l0 x11_1) a1 a2 true _ A7.1).mono ?_);rintro e w' ⟨rfl,⟨nd,rfl⟩⟩;refine⟨_,rfl,?_⟩))
  go_roundg k1
  case measure=>have:=HK1.1;omega
  exact⟨(wrap64 (x11_1+1)),Z7,H',⟨Z34⟩,Z16⟩
 replace c8:=Bool.eq_false_iff.mpr c8
 subst c8
 rw[if_neg (show¬(false=true) by decide)]at H
 obtain rfl:=Option.some.inj H
 have p133:0≤(x11_1:Int):=of_decide_eq_true Z5
 have q133:x11_1<(l0.length:Int):=of_decide_eq_true Z5
 obtain⟨ad133,e133,hx133_0⟩:=Kd.at_int HR0.1 x11_1 p133 q133
 cases e133
 replace p133:=eq_true p133
 replace q133:=eq_true q133
 go_wp2_with (first|((with_reducible refine gc_ 41 rfl ?_);refine goesN_ 41 (some 18) Tryz.func41 #[.int .i64 (rd l0 x11_1),.int .i64 a1,.int .i64 a2] ?_;(with_reducible refine(spec_l1In.calls (rd l0 x11_1) a1 a2 false _ A7.1).mono ?_);rintro e w' ⟨rfl,⟨nd,rfl⟩⟩;refine⟨_,rfl,?_⟩))
 go_ret
 exact⟨Z7,Z16⟩
def spec_ciGood.f (k:Nat) (a0_0:Int) (a0_1:Int) (a0_2:Int) (a0_3:Int):Option (Bool):=(spec_l1All.f k (([a0_0,a0_1,a0_2,a0_3]:List Int)) (-1000000) 1000000).bind fun t139=>(if t139=true then(some ((wrap64 ((wrap64 ((wrap64 (a0_2*a0_2))+(wrap64 (a0_3*a0_3))))-(wrap64 (a0_0*a0_1))))==1))else(some false))
theorem spec_ciGood.mono:∀a0 a1 a2 a3 k,LeO (spec_ciGood.f k a0 a1 a2 a3) (spec_ciGood.f (k+1) a0 a1 a2 a3):=by
  intro a0 a1 a2 a3 k
  unfold spec_ciGood.f
  exact mo_
set_option maxHeartbeats 8000000 in
set_option maxRecDepth 100000 in
theorem spec_ciGood.calls (k:Nat) (a0_0:Int) (a0_1:Int) (a0_2:Int) (a0_3:Int) (r:Bool) (w:World) (h:spec_ciGood.f k a0_0 a0_1 a0_2 a0_3=some r):
  Calls Tryz.prog 47 #[.agg #[.int .i64 a0_0,.int .i64 a0_1,.int .i64 a0_2,.int .i64 a0_3]] w fun e w'=>e= .returned (.bool r)∧Below w.heap.size w w':=by
 have hu37:=Tryz.underlying37
 have HB:=am (Below.refl w.heap.size w)
 have H:=h
 clear h
 unfold spec_ciGood.f at H
 obtain⟨y_a,hy_a⟩:∃y_:List Int,y_=(([a0_0,a0_1,a0_2,a0_3]:List Int)):=⟨_,rfl⟩
 replace H:((spec_l1All.f k y_a (-1000000) 1000000).bind fun t139=>(if t139=true then(some ((wrap64 ((wrap64 ((wrap64 (a0_2*a0_2))+(wrap64 (a0_3*a0_3))))-(wrap64 (a0_0*a0_1))))==1))else(some false)))=some r:=Z8
 have Ny_a:=am hy_a
 clear hy_a
 obtain⟨t139,A2,H⟩:=bs_ H
 try dsimp only at H
 by_cases c3:t139=true
 ·
  subst c3
  rw[if_pos rfl]at H
  obtain rfl:=Option.some.inj H
  go_enter Tryz.func47,Tryz.ntmps47
  go_wp2_with (first|((with_reducible refine gd_ 1 rfl ?_);refine boxN_ 1 #[.int .i64 a0_0,.int .i64 a0_1,.int .i64 a0_2,.int .i64 a0_3] 37 ?_;intro gboa hg w4 hbox hb;have BKoa:=am hbox;have GWoa:=gG_ hg;have GEoa:=gG_ hg;replace HB:=bw_ hb;clear hb hbox hg;obtain⟨_,_,_,_,_,_,_,_⟩:=cz4_ BKoa)|((with_reducible refine gd_ 11 rfl ?_);refine Kd.R_lit (Kd.int .i64) _ 3 ?hg (N:=11) ?hd (xs:=([a0_0,a0_1,a0_2,a0_3]:List Int)) (inner:=[.int .i64 a0_0,.int .i64 a0_1,.int .i64 a0_2,.int .i64 a0_3]) (ok:=fun _=>True) (okp:=fun _=>True) ?hr ?hp (fun _ hk=>hk) trivial (Below.refl _ _) (Nat.le_refl _) (by simp) ?_;(case hd=>rfl);(case hg=>rfl);(case hr=>first|(go_simp;done)|(go_simp;rfl));(case hp=>exact(Reps.one (show Kd.M (Kd.int .i64) _ _ _ a0_0 [.int .i64 a0_0]from rfl) (Reps.one (show Kd.M (Kd.int .i64) _ _ _ a0_1 [.int .i64 a0_1]from rfl) (Reps.one (show Kd.M (Kd.int .i64) _ _ _ a0_2 [.int .i64 a0_2]from rfl) (Reps.one (show Kd.M (Kd.int .i64) _ _ _ a0_3 [.int .i64 a0_3]from rfl) (Reps.none _ _))))));intro v137 w6 ho7 hb hg_ hnew_;clear hg_ hnew_;(first|rw[←Ny_a.1]at ho7|(simp only[Int.reduceToNat]at ho7;rw[←Ny_a.1]at ho7));have HOob:=am (Kd.R_lower ho7 zs_);replace BKoa:=bk_ BKoa hb;replace HB:=bw_ hb;clear hb ho7;obtain⟨Ao8,co8,eo8⟩:=Kd.R_slice HOob.1;subst eo8)|((with_reducible refine gc_ 69 rfl ?_);refine goesN_ 69 (some 12) Tryz.func69 #[.slice Ao8 y_a.length co8,.int .i64 (-1000000),.int .i64 1000000] ?_;(with_reducible refine(spec_l1All.calls k _ _ y_a (-1000000) 1000000 true _ ?side1 ?side2 A2.1).mono ?_);(case side1=>exact(Z10 HOob));(case side2=>exact(Kd.R_reads' HOob.1).2.1);rintro e w' ⟨rfl,⟨nd,rfl⟩⟩;refine⟨_,rfl,?_⟩;obtain⟨_,_,_,_,_,_,_,_⟩:=cz4_ BKoa))
  go_ret
  exact⟨Z6,ZB⟩
 replace c3:=Bool.eq_false_iff.mpr c3
 subst c3
 rw[if_neg (show¬(false=true) by decide)]at H
 obtain rfl:=Option.some.inj H
 go_enter Tryz.func47,Tryz.ntmps47
 go_wp2_with (first|((with_reducible refine gd_ 1 rfl ?_);refine boxN_ 1 #[.int .i64 a0_0,.int .i64 a0_1,.int .i64 a0_2,.int .i64 a0_3] 37 ?_;intro gboa hg w10 hbox hb;have BKoa:=am hbox;have GWoa:=gG_ hg;have GEoa:=gG_ hg;replace HB:=bw_ hb;clear hb hbox hg;obtain⟨_,_,_,_,_,_,_,_⟩:=cz4_ BKoa)|((with_reducible refine gd_ 11 rfl ?_);refine Kd.R_lit (Kd.int .i64) _ 3 ?hg (N:=11) ?hd (xs:=([a0_0,a0_1,a0_2,a0_3]:List Int)) (inner:=[.int .i64 a0_0,.int .i64 a0_1,.int .i64 a0_2,.int .i64 a0_3]) (ok:=fun _=>True) (okp:=fun _=>True) ?hr ?hp (fun _ hk=>hk) trivial (Below.refl _ _) (Nat.le_refl _) (by simp) ?_;(case hd=>rfl);(case hg=>rfl);(case hr=>first|(go_simp;done)|(go_simp;rfl));(case hp=>exact(Reps.one (show Kd.M (Kd.int .i64) _ _ _ a0_0 [.int .i64 a0_0]from rfl) (Reps.one (show Kd.M (Kd.int .i64) _ _ _ a0_1 [.int .i64 a0_1]from rfl) (Reps.one (show Kd.M (Kd.int .i64) _ _ _ a0_2 [.int .i64 a0_2]from rfl) (Reps.one (show Kd.M (Kd.int .i64) _ _ _ a0_3 [.int .i64 a0_3]from rfl) (Reps.none _ _))))));intro v137 w12 ho13 hb hg_ hnew_;clear hg_ hnew_;(first|rw[←Ny_a.1]at ho13|(simp only[Int.reduceToNat]at ho13;rw[←Ny_a.1]at ho13));have HOob:=am (Kd.R_lower ho13 zs_);replace BKoa:=bk_ BKoa hb;replace HB:=bw_ hb;clear hb ho13;obtain⟨Ao14,co14,eo14⟩:=Kd.R_slice HOob.1;subst eo14)|((with_reducible refine gc_ 69 rfl ?_);refine goesN_ 69 (some 12) Tryz.func69 #[.slice Ao14 y_a.length co14,.int .i64 (-1000000),.int .i64 1000000] ?_;(with_reducible refine(spec_l1All.calls k _ _ y_a (-1000000) 1000000 false _ ?side1 ?side2 A2.1).mono ?_);(case side1=>exact(Z10 HOob));(case side2=>exact(Kd.R_reads' HOob.1).2.1);rintro e w' ⟨rfl,⟨nd,rfl⟩⟩;refine⟨_,rfl,?_⟩))
 go_ret
 exact⟨Z6,ZB⟩
def spec_ciIf.f (k:Nat) (a0_0:Int) (a0_1:Int) (a0_2:Int) (a0_3:Int):Option (Int × Int × Int × Int × Bool):=(spec_ciGood.f k a0_0 a0_1 a0_2 a0_3).bind fun t142=>(if t142=true then(some (a0_0,a0_1,a0_2,a0_3,true))else(some (0,0,0,0,false)))
theorem spec_ciIf.mono:∀a0 a1 a2 a3 k,LeO (spec_ciIf.f k a0 a1 a2 a3) (spec_ciIf.f (k+1) a0 a1 a2 a3):=by
  intro a0 a1 a2 a3 k
  unfold spec_ciIf.f
  exact mo_
set_option maxHeartbeats 8000000 in
set_option maxRecDepth 100000 in
theorem spec_ciIf.calls (k:Nat) (a0_0:Int) (a0_1:Int) (a0_2:Int) (a0_3:Int) (r1:Int) (r2:Int) (r3:Int) (r4:Int) (r5:Bool) (w:World) (h:spec_ciIf.f k a0_0 a0_1 a0_2 a0_3=some (r1,r2,r3,r4,r5)):
  Calls Tryz.prog 93 #[.agg #[.int .i64 a0_0,.int .i64 a0_1,.int .i64 a0_2,.int .i64 a0_3]] w fun e w'=>e= .returned (.tuple #[.agg #[.int .i64 r1,.int .i64 r2,.int .i64 r3,.int .i64 r4],.bool r5])∧Below w.heap.size w w':=by
 have hu37:=Tryz.underlying37
 have HB:=am (Below.refl w.heap.size w)
 have H:=h
 clear h
 unfold spec_ciIf.f at H
 obtain⟨t142,A2,H⟩:=bs_ H
 try dsimp only at H
 by_cases c3:t142=true
 ·
  subst c3
  rw[if_pos rfl]at H
  simp only[Option.some.injEq,Prod.mk.injEq]at H
  obtain⟨rfl,rfl,rfl,rfl,rfl⟩:=H
  go_enter Tryz.func93,Tryz.ntmps93
  go_wp2_with (first|((with_reducible refine gd_ 1 rfl ?_);refine boxN_ 1 #[.int .i64 a0_0,.int .i64 a0_1,.int .i64 a0_2,.int .i64 a0_3] 37 ?_;intro gboa hg w4 hbox hb;have BKoa:=am hbox;have GWoa:=gG_ hg;have GEoa:=gG_ hg;replace HB:=bw_ hb;clear hb hbox hg)|((with_reducible refine gd_ 2 rfl ?_);refine boxN_ 2 #[.int .i64 0,.int .i64 0,.int .i64 0,.int .i64 0] 37 ?_;intro gbob hg w5 hbox hb;have BKob:=am hbox;have GWob:=gG_ hg;have GEob:=gG_ hg;replace HB:=bw_ hb;have NBoa_ob:=nl_ BKoa hg;have NBob_oa:=ng_ BKoa hg;replace BKoa:=bk_ BKoa hb;clear hb hbox hg;have hnb6:=NBoa_ob.1;have hnc6:=NBob_oa.1;obtain⟨_,_,_,_,_,_,_,_⟩:=cz4_ BKoa)|((with_reducible refine gc_ 47 rfl ?_);refine gM_ (some 5) Tryz.func47 (spec_ciGood.calls k a0_0 a0_1 a0_2 a0_3 true _ A2.1) ?_;intro w8 hb;replace BKoa:=bk_ BKoa hb;replace BKob:=bk_ BKob hb;replace HB:=bw_ hb;clear hb;obtain⟨_,_,_,_,_,_,_,_⟩:=cz4_ BKoa;obtain⟨_,_,_,_,_,_,_,_⟩:=cz4_ BKob))
  refine bodyPost_ret (results_ct rfl _ _ gbob 37 #[.int .i64 a0_0,.int .i64 a0_1,.int .i64 a0_2,.int .i64 a0_3] (0,0) _ rfl (bb_ BKob) Tryz.underlying37 rfl Z19) rfl ?_
  exact⟨Z6,ZB⟩
 replace c3:=Bool.eq_false_iff.mpr c3
 subst c3
 rw[if_neg (show¬(false=true) by decide)]at H
 simp only[Option.some.injEq,Prod.mk.injEq]at H
 obtain⟨rfl,rfl,rfl,rfl,rfl⟩:=H
 go_enter Tryz.func93,Tryz.ntmps93
 go_wp2_with (first|((with_reducible refine gd_ 1 rfl ?_);refine boxN_ 1 #[.int .i64 a0_0,.int .i64 a0_1,.int .i64 a0_2,.int .i64 a0_3] 37 ?_;intro gboa hg w11 hbox hb;have BKoa:=am hbox;have GWoa:=gG_ hg;have GEoa:=gG_ hg;replace HB:=bw_ hb;clear hb hbox hg)|((with_reducible refine gd_ 2 rfl ?_);refine boxN_ 2 #[.int .i64 0,.int .i64 0,.int .i64 0,.int .i64 0] 37 ?_;intro gbob hg w12 hbox hb;have BKob:=am hbox;have GWob:=gG_ hg;have GEob:=gG_ hg;replace HB:=bw_ hb;have NBoa_ob:=nl_ BKoa hg;have NBob_oa:=ng_ BKoa hg;replace BKoa:=bk_ BKoa hb;clear hb hbox hg;have hnb13:=NBoa_ob.1;have hnc13:=NBob_oa.1;obtain⟨_,_,_,_,_,_,_,_⟩:=cz4_ BKoa)|((with_reducible refine gc_ 47 rfl ?_);refine gM_ (some 5) Tryz.func47 (spec_ciGood.calls k a0_0 a0_1 a0_2 a0_3 false _ A2.1) ?_;intro w15 hb;replace BKoa:=bk_ BKoa hb;replace BKob:=bk_ BKob hb;replace HB:=bw_ hb;clear hb;obtain⟨_,_,_,_,_,_,_,_⟩:=cz4_ BKob))
 refine bodyPost_ret (results_ct rfl _ _ gbob 37 #[.int .i64 0,.int .i64 0,.int .i64 0,.int .i64 0] (0,0) _ rfl (bb_ BKob) Tryz.underlying37 rfl Z19) rfl ?_
 exact⟨Z6,ZB⟩
def spec_ShiftCircle.f (k:Nat) (a0_0:Int) (a0_1:Int) (a0_2:Int) (a0_3:Int) (a1:Int) (a2:Int):Option (Int × Int × Int × Int × Bool):=(spec_ciGood.f k a0_0 a0_1 a0_2 a0_3).bind fun t145=>(if t145=true then((spec_l1In.f a1 (-1000) 1000).bind fun t146=>(if t146=true then((spec_l1In.f a2 (-1000) 1000).bind fun t147=>(if t147=true then((spec_ciIf.f k (wrap64 ((wrap64 (a0_0+(wrap64 (2*(wrap64 ((wrap64 (a0_2*a1))+(wrap64 (a0_3*a2))))))))+(wrap64 (a0_1*(wrap64 ((wrap64 (a1*a1))+(wrap64 (a2*a2)))))))) a0_1 (wrap64 (a0_2+(wrap64 (a0_1*a1)))) (wrap64 (a0_3+(wrap64 (a0_1*a2))))).bind fun bt148=>(some (bt148.1,bt148.2.1,bt148.2.2.1,bt148.2.2.2.1,bt148.2.2.2.2)))else(some (0,0,0,0,false))))else(some (0,0,0,0,false))))else(some (0,0,0,0,false)))
theorem spec_ShiftCircle.mono:∀a0 a1 a2 a3 a4 a5 k,LeO (spec_ShiftCircle.f k a0 a1 a2 a3 a4 a5) (spec_ShiftCircle.f (k+1) a0 a1 a2 a3 a4 a5):=by
  intro a0 a1 a2 a3 a4 a5 k
  unfold spec_ShiftCircle.f
  exact mo_
set_option maxHeartbeats 8000000 in
set_option maxRecDepth 100000 in
theorem spec_ShiftCircle.calls (k:Nat) (a0_0:Int) (a0_1:Int) (a0_2:Int) (a0_3:Int) (a1:Int) (a2:Int) (r1:Int) (r2:Int) (r3:Int) (r4:Int) (r5:Bool) (w:World) (h:spec_ShiftCircle.f k a0_0 a0_1 a0_2 a0_3 a1 a2=some (r1,r2,r3,r4,r5)):
  Calls Tryz.prog 68 #[.agg #[.int .i64 a0_0,.int .i64 a0_1,.int .i64 a0_2,.int .i64 a0_3],.int .i64 a1,.int .i64 a2] w fun e w'=>e= .returned (.tuple #[.agg #[.int .i64 r1,.int .i64 r2,.int .i64 r3,.int .i64 r4],.bool r5])∧Below w.heap.size w w':=by
 have hu37:=Tryz.underlying37
 have HB:=am (Below.refl w.heap.size w)
 have H:=h
 clear h
 unfold spec_ShiftCircle.f at H
 obtain⟨t145,A4,H⟩:=bs_ H
 try dsimp only at H
 by_cases c5:t145=true
 rotate_left
 ·
  replace c5:=Bool.eq_false_iff.mpr c5
  subst c5
  rw[if_neg (show¬(false=true) by decide)]at H
  simp only[Option.some.injEq,Prod.mk.injEq]at H
  obtain⟨rfl,rfl,rfl,rfl,rfl⟩:=H
  go_enter Tryz.func68,Tryz.ntmps68
  go_wp2_with (first|((with_reducible refine gd_ 3 rfl ?_);refine boxN_ 3 #[.int .i64 a0_0,.int .i64 a0_1,.int .i64 a0_2,.int .i64 a0_3] 37 ?_;intro gboa hg w31 hbox hb;have BKoa:=am hbox;have GWoa:=gG_ hg;have GEoa:=gG_ hg;replace HB:=bw_ hb;clear hb hbox hg)|((with_reducible refine gd_ 6 rfl ?_);refine boxN_ 6 #[.int .i64 0,.int .i64 0,.int .i64 0,.int .i64 0] 37 ?_;intro gbob hg w32 hbox hb;have BKob:=am hbox;have GWob:=gG_ hg;have GEob:=gG_ hg;replace HB:=bw_ hb;have NBoa_ob:=nl_ BKoa hg;have NBob_oa:=ng_ BKoa hg;replace BKoa:=bk_ BKoa hb;clear hb hbox hg;have hnb33:=NBoa_ob.1;have hnc33:=NBob_oa.1;obtain⟨_,_,_,_,_,_,_,_⟩:=cz4_ BKoa)|((with_reducible refine gc_ 47 rfl ?_);refine gM_ (some 9) Tryz.func47 (spec_ciGood.calls k a0_0 a0_1 a0_2 a0_3 false _ A4.1) ?_;intro w35 hb;replace BKoa:=bk_ BKoa hb;replace BKob:=bk_ BKob hb;replace HB:=bw_ hb;clear hb;obtain⟨_,_,_,_,_,_,_,_⟩:=cz4_ BKob))
  refine bodyPost_ret (results_ct rfl _ _ gbob 37 #[.int .i64 0,.int .i64 0,.int .i64 0,.int .i64 0] (0,0) _ rfl (bb_ BKob) Tryz.underlying37 rfl Z19) rfl ?_
  exact⟨Z6,ZB⟩
 subst c5
 rw[if_pos rfl]at H
 obtain⟨t146,A6,H⟩:=bs_ H
 try dsimp only at H
 by_cases c7:t146=true
 rotate_left
 ·
  replace c7:=Bool.eq_false_iff.mpr c7
  subst c7
  rw[if_neg (show¬(false=true) by decide)]at H
  simp only[Option.some.injEq,Prod.mk.injEq]at H
  obtain⟨rfl,rfl,rfl,rfl,rfl⟩:=H
  go_enter Tryz.func68,Tryz.ntmps68
  go_wp2_with (first|((with_reducible refine gd_ 3 rfl ?_);refine boxN_ 3 #[.int .i64 a0_0,.int .i64 a0_1,.int .i64 a0_2,.int .i64 a0_3] 37 ?_;intro gboa hg w25 hbox hb;have BKoa:=am hbox;have GWoa:=gG_ hg;have GEoa:=gG_ hg;replace HB:=bw_ hb;clear hb hbox hg)|((with_reducible refine gd_ 6 rfl ?_);refine boxN_ 6 #[.int .i64 0,.int .i64 0,.int .i64 0,.int .i64 0] 37 ?_;intro gbob hg w26 hbox hb;have BKob:=am hbox;have GWob:=gG_ hg;have GEob:=gG_ hg;replace HB:=bw_ hb;have NBoa_ob:=nl_ BKoa hg;have NBob_oa:=ng_ BKoa hg;replace BKoa:=bk_ BKoa hb;clear hb hbox hg;have hnb27:=NBoa_ob.1;have hnc27:=NBob_oa.1;obtain⟨_,_,_,_,_,_,_,_⟩:=cz4_ BKoa)|((with_reducible refine gc_ 47 rfl ?_);refine gM_ (some 9) Tryz.func47 (spec_ciGood.calls k a0_0 a0_1 a0_2 a0_3 true _ A4.1) ?_;intro w29 hb;replace BKoa:=bk_ BKoa hb;replace BKob:=bk_ BKob hb;replace HB:=bw_ hb;clear hb)|(go_at_call 41;(with_reducible refine(spec_l1In.calls a1 (-1000) 1000 false _ A6.1).mono ?_);rintro e w' ⟨rfl,⟨nd,rfl⟩⟩;(try(rw[drewN_self w29];generalize hq_:World.drewN w29 _=w29;replace BKoa:=bq_ BKoa hq_;replace BKob:=bq_ BKob hq_;replace HB:Aside0 (Below w.heap.size w w29):=⟨(by rw[←hq_];exact ZB)⟩;clear hq_));obtain⟨_,_,_,_,_,_,_,_⟩:=cz4_ BKob))
  refine bodyPost_ret (results_ct rfl _ _ gbob 37 #[.int .i64 0,.int .i64 0,.int .i64 0,.int .i64 0] (0,0) _ rfl (bb_ BKob) Tryz.underlying37 rfl Z19) rfl ?_
  exact⟨Z6,ZB⟩
 subst c7
 rw[if_pos rfl]at H
 obtain⟨t147,A8,H⟩:=bs_ H
 try dsimp only at H
 by_cases c9:t147=true
 rotate_left
 ·
  replace c9:=Bool.eq_false_iff.mpr c9
  subst c9
  rw[if_neg (show¬(false=true) by decide)]at H
  simp only[Option.some.injEq,Prod.mk.injEq]at H
  obtain⟨rfl,rfl,rfl,rfl,rfl⟩:=H
  go_enter Tryz.func68,Tryz.ntmps68
  go_wp2_with (first|((with_reducible refine gd_ 3 rfl ?_);refine boxN_ 3 #[.int .i64 a0_0,.int .i64 a0_1,.int .i64 a0_2,.int .i64 a0_3] 37 ?_;intro gboa hg w19 hbox hb;have BKoa:=am hbox;have GWoa:=gG_ hg;have GEoa:=gG_ hg;replace HB:=bw_ hb;clear hb hbox hg)|((with_reducible refine gd_ 6 rfl ?_);refine boxN_ 6 #[.int .i64 0,.int .i64 0,.int .i64 0,.int .i64 0] 37 ?_;intro gbob hg w20 hbox hb;have BKob:=am hbox;have GWob:=gG_ hg;have GEob:=gG_ hg;replace HB:=bw_ hb;have NBoa_ob:=nl_ BKoa hg;have NBob_oa:=ng_ BKoa hg;replace BKoa:=bk_ BKoa hb;clear hb hbox hg;have hnb21:=NBoa_ob.1;have hnc21:=NBob_oa.1;obtain⟨_,_,_,_,_,_,_,_⟩:=cz4_ BKoa)|((with_reducible refine gc_ 47 rfl ?_);refine gM_ (some 9) Tryz.func47 (spec_ciGood.calls k a0_0 a0_1 a0_2 a0_3 true _ A4.1) ?_;intro w23 hb;replace BKoa:=bk_ BKoa hb;replace BKob:=bk_ BKob hb;replace HB:=bw_ hb;clear hb)|(go_at_call 41;(with_reducible refine(spec_l1In.calls a1 (-1000) 1000 true _ A6.1).mono ?_);rintro e w' ⟨rfl,⟨nd,rfl⟩⟩;(try(rw[drewN_self w23];generalize hq_:World.drewN w23 _=w23;replace BKoa:=bq_ BKoa hq_;replace BKob:=bq_ BKob hq_;replace HB:Aside0 (Below w.heap.size w w23):=⟨(by rw[←hq_];exact ZB)⟩;clear hq_)))|(go_at_call 41;(with_reducible refine(spec_l1In.calls a2 (-1000) 1000 false _ A8.1).mono ?_);rintro e w' ⟨rfl,⟨nd,rfl⟩⟩;(try(rw[drewN_self w23];generalize hq_:World.drewN w23 _=w23;replace BKoa:=bq_ BKoa hq_;replace BKob:=bq_ BKob hq_;replace HB:Aside0 (Below w.heap.size w w23):=⟨(by rw[←hq_];exact ZB)⟩;clear hq_));obtain⟨_,_,_,_,_,_,_,_⟩:=cz4_ BKob))
  refine bodyPost_ret (results_ct rfl _ _ gbob 37 #[.int .i64 0,.int .i64 0,.int .i64 0,.int .i64 0] (0,0) _ rfl (bb_ BKob) Tryz.underlying37 rfl Z19) rfl ?_
  exact⟨Z6,ZB⟩
 subst c9
 rw[if_pos rfl]at H
 obtain⟨⟨t148,t149,t150,t151,t152⟩,A10,H⟩:=bs_ H
 try dsimp only at H
 simp only[Option.some.injEq,Prod.mk.injEq]at H
 obtain⟨rfl,rfl,rfl,rfl,rfl⟩:=H
 go_enter Tryz.func68,Tryz.ntmps68
 go_wp2_with (first|((with_reducible refine gd_ 3 rfl ?_);refine boxN_ 3 #[.int .i64 a0_0,.int .i64 a0_1,.int .i64 a0_2,.int .i64 a0_3] 37 ?_;intro gboa hg w11 hbox hb;have BKoa:=am hbox;have GWoa:=gG_ hg;have GEoa:=gG_ hg;replace HB:=bw_ hb;clear hb hbox hg)|((with_reducible refine gd_ 6 rfl ?_);refine boxN_ 6 #[.int .i64 0,.int .i64 0,.int .i64 0,.int .i64 0] 37 ?_;intro gbob hg w12 hbox hb;have BKob:=am hbox;have GWob:=gG_ hg;have GEob:=gG_ hg;replace HB:=bw_ hb;have NBoa_ob:=nl_ BKoa hg;have NBob_oa:=ng_ BKoa hg;replace BKoa:=bk_ BKoa hb;clear hb hbox hg;have hnb13:=NBoa_ob.1;have hnc13:=NBob_oa.1;obtain⟨_,_,_,_,_,_,_,_⟩:=cz4_ BKoa)|((with_reducible refine gc_ 47 rfl ?_);refine gM_ (some 9) Tryz.func47 (spec_ciGood.calls k a0_0 a0_1 a0_2 a0_3 true _ A4.1) ?_;intro w15 hb;replace BKoa:=bk_ BKoa hb;replace BKob:=bk_ BKob hb;replace HB:=bw_ hb;clear hb)|(go_at_call 41;(with_reducible refine(spec_l1In.calls a1 (-1000) 1000 true _ A6.1).mono ?_);rintro e w' ⟨rfl,⟨nd,rfl⟩⟩;(try(rw[drewN_self w15];generalize hq_:World.drewN w15 _=w15;replace BKoa:=bq_ BKoa hq_;replace BKob:=bq_ BKob hq_;replace HB:Aside0 (Below w.heap.size w w15):=⟨(by rw[←hq_];exact ZB)⟩;clear hq_)))|(go_at_call 41;(with_reducible refine(spec_l1In.calls a2 (-1000) 1000 true _ A8.1).mono ?_);rintro e w' ⟨rfl,⟨nd,rfl⟩⟩;(try(rw[drewN_self w15];generalize hq_:World.drewN w15 _=w15;replace BKoa:=bq_ BKoa hq_;replace BKob:=bq_ BKob hq_;replace HB:Aside0 (Below w.heap.size w w15):=⟨(by rw[←hq_];exact ZB)⟩;clear hq_));obtain⟨_,_,_,_,_,_,_,_⟩:=cz4_ BKoa)|((with_reducible refine gc_ 93 rfl ?_);refine gM_ (some 63) Tryz.func93 (spec_ciIf.calls k (wrap64 ((wrap64 (a0_0+(wrap64 (2*(wrap64 ((wrap64 (a0_2*a1))+(wrap64 (a0_3*a2))))))))+(wrap64 (a0_1*(wrap64 ((wrap64 (a1*a1))+(wrap64 (a2*a2)))))))) a0_1 (wrap64 (a0_2+(wrap64 (a0_1*a1)))) (wrap64 (a0_3+(wrap64 (a0_1*a2)))) t148 t149 t150 t151 t152 _ A10.1) ?_;intro w17 hb;replace BKoa:=bk_ BKoa hb;replace BKob:=bk_ BKob hb;replace HB:=bw_ hb;clear hb;obtain⟨_,_,_,_,_,_,_,_⟩:=cz4_ BKob))
 refine bodyPost_ret (results_ct rfl _ _ gbob 37 #[.int .i64 t148,.int .i64 t149,.int .i64 t150,.int .i64 t151] (0,0) _ rfl (bb_ BKob) Tryz.underlying37 rfl Z19) rfl ?_
 exact⟨Z6,ZB⟩
mutual
def spec_l1Cur_config.l0:Nat→List (S37)→Int→List Int→Int→Int→Option ((List (S37))× Int × Int)
  |0,_,_,_,_,_=>none
  |k+1,x3,x5,x1000,x1001,x1002=>if x5>0 then((spec_l1Cur_pick.f x1000 x1001 x1002 4).bind fun bt166=>((spec_ciSwap.f k x3 bt166.1).bind fun t169=>(spec_l1Cur_config.l0 k t169 (wrap64 (x5-1)) x1000 bt166.2.1 bt166.2.2)))else((spec_l1Cur_one.f x1000 x1001 x1002 3).bind fun bt172=>(if bt172.1=true then((spec_l1Cur_pick.f x1000 bt172.2.1 bt172.2.2 5).bind fun bt175=>((spec_l1Cur_pick.f x1000 bt175.2.1 bt175.2.2 5).bind fun bt178=>(spec_l1Cur_config.l1 k ([]:List (S37)) (wrap64 (bt175.1-2)) (wrap64 (bt178.1-2)) x3 (x3.length:Int) 0 x1000 bt178.2.1 bt178.2.2)))else(spec_l1Cur_config.j2 k x3 x1000 bt172.2.1 bt172.2.2)))
def spec_l1Cur_config.j2:Nat→List (S37)→List Int→Int→Int→Option ((List (S37))× Int × Int)
  |0,_,_,_,_=>none
  |k+1,x3,x1000,x1001,x1002=>(spec_l1Cur_pick.f x1000 x1001 x1002 20).bind fun bt192=>(if bt192.1=0 then(if(x3.length:Int)>0 then((spec_l1Cur_pick.f x1000 bt192.2.1 bt192.2.2 (x3.length:Int)).bind fun bt195=>((spec_l1Cur_pick.f x1000 bt195.2.1 bt195.2.2 3).bind fun bt198=>((spec_l1Cur_pick.f x1000 bt198.2.1 bt198.2.2 3).bind fun bt201=>(if 0≤bt195.1 then(if bt195.1<(x3.length:Int)then(some ((x3.set (bt195.1:Int).toNat (⟨bt198.1,wrap64 (bt201.1-1),1,0⟩:S37)),bt201.2.1,bt201.2.2))else(none))else(none)))))else(some (x3,bt192.2.1,bt192.2.2)))else(if bt192.1=1 then(if x3.length<4398046511104 then(some ((x3++[(⟨0,0,0,1⟩:S37)]),bt192.2.1,bt192.2.2))else(none))else(if bt192.1=2 then(some (([]:List (S37)),bt192.2.1,bt192.2.2))else(some (x3,bt192.2.1,bt192.2.2)))))
def spec_l1Cur_config.l1:Nat→List (S37)→Int→Int→List (S37)→Int→Int→List Int→Int→Int→Option ((List (S37))× Int × Int)
  |0,_,_,_,_,_,_,_,_,_=>none
  |k+1,x7,x8,x9,x40,x41,x42,x1000,x1001,x1002=>if x42<x41 then(if 0≤x42 then(if x42<(x40.length:Int)then((spec_ShiftCircle.f k ((rd_T37 x40 x42).f0) ((rd_T37 x40 x42).f1) ((rd_T37 x40 x42).f2) ((rd_T37 x40 x42).f3) x8 x9).bind fun bt183=>(if bt183.2.2.2.2=true then(if x7.length<4398046511104 then(spec_l1Cur_config.l1 k (x7++[(⟨bt183.1,bt183.2.1,bt183.2.2.1,bt183.2.2.2.1⟩:S37)]) x8 x9 x40 x41 (wrap64 (x42+1)) x1000 x1001 x1002)else(none))else(spec_l1Cur_config.l1 k x7 x8 x9 x40 x41 (wrap64 (x42+1)) x1000 x1001 x1002)))else(none))else(none))else(spec_l1Cur_config.j2 k x7 x1000 x1001 x1002)
end
def spec_l1Cur_config.f (k:Nat) (s0_0:List Int) (s0_1:Int) (s0_2:Int):Option ((List (S37))× Int × Int):=(spec_l1Cur_pick.f s0_0 s0_1 s0_2 2).bind fun bt153=>((spec_StartConfig.f bt153.1).bind fun bt156=>((spec_l1Cur_among.f s0_0 bt153.2.1 bt153.2.2 (([0,0,1,2,3,5]:List Int))).bind fun bt163=>(spec_l1Cur_config.l0 k bt156.1 bt163.1 s0_0 bt163.2.1 bt163.2.2)))
theorem spec_l1Cur_config.mono_l:∀k,(∀y0 y1 y2 y3 y4,LeO (spec_l1Cur_config.l0 k y0 y1 y2 y3 y4) (spec_l1Cur_config.l0 (k+1) y0 y1 y2 y3 y4))∧(∀y0 y1 y2 y3,LeO (spec_l1Cur_config.j2 k y0 y1 y2 y3) (spec_l1Cur_config.j2 (k+1) y0 y1 y2 y3))∧(∀y0 y1 y2 y3 y4 y5 y6 y7 y8,LeO (spec_l1Cur_config.l1 k y0 y1 y2 y3 y4 y5 y6 y7 y8) (spec_l1Cur_config.l1 (k+1) y0 y1 y2 y3 y4 y5 y6 y7 y8))
  |0=>⟨fun _ _ _ _ _ r h=>by simp[spec_l1Cur_config.l0]at h,fun _ _ _ _ r h=>by simp[spec_l1Cur_config.j2]at h,fun _ _ _ _ _ _ _ _ _ r h=>by simp[spec_l1Cur_config.l1]at h⟩
  |k+1=>by
    obtain⟨ih0,ih1,ih2⟩:=spec_l1Cur_config.mono_l k
    refine⟨?_,?_,?_⟩
    · intro y0 y1 y2 y3 y4
      unfold spec_l1Cur_config.l0
      exact mo_
    · intro y0 y1 y2 y3
      unfold spec_l1Cur_config.j2
      exact mo_
    · intro y0 y1 y2 y3 y4 y5 y6 y7 y8
      unfold spec_l1Cur_config.l1
      exact mo_
theorem spec_l1Cur_config.mono:∀a0 a1 a2 k,LeO (spec_l1Cur_config.f k a0 a1 a2) (spec_l1Cur_config.f (k+1) a0 a1 a2):=by
  intro a0 a1 a2 k
  obtain⟨ih0,ih1,ih2⟩:=spec_l1Cur_config.mono_l k
  unfold spec_l1Cur_config.f
  exact mo_
set_option maxHeartbeats 8000000 in
set_option maxRecDepth 100000 in
theorem spec_l1Cur_config.calls (k:Nat) (g:Nat) (s0_0:List Int) (s0_1:Int) (s0_2:Int) (r1:List (S37)) (r2:Int) (r3:Int) (w0 w:World) (hI:IsS58 w0 w g s0_0 s0_1 s0_2) (hB:Below w0.heap.size w0 w) (h:spec_l1Cur_config.f k s0_0 s0_1 s0_2=some (r1,r2,r3)):
  Calls Tryz.prog 29 #[.pointer (some ⟨g,0,none⟩)] w fun e w'=>∃v0_:Value,e= .returned (v0_)∧Kd.R k37 37 w' w.heap.size (fun _=>True) v0_ r1∧IsS58 w0 w' g s0_0 r2 r3∧Below w0.heap.size w0 w'∧KeepBut w w' g none:=by
 have hu37:=Tryz.underlying37
 have HI0:=am hI
 have HK:=am (KeepBut.refl w g none)
 have HL:=am hB.size
 clear hI
 have HW0:=am hB.size
 have HB:=am hB
 clear hB
 have H:=h
 clear h
 unfold spec_l1Cur_config.f at H
 obtain⟨⟨t153,t154,t155⟩,A2,H⟩:=bs_ H
 try dsimp only at H
 obtain⟨⟨t156,t157⟩,A3,H⟩:=bs_ H
 try dsimp only at H
 obtain⟨y_a,hy_a⟩:∃y_:List Int,y_=(([0,0,1,2,3,5]:List Int)):=⟨_,rfl⟩
 replace H:((spec_l1Cur_among.f s0_0 t154 t155 y_a).bind fun bt163=>(spec_l1Cur_config.l0 k t156 bt163.1 s0_0 bt163.2.1 bt163.2.2))=some (r1,r2,r3):=Z8
 have Ny_a:=am hy_a
 clear hy_a
 obtain⟨⟨t163,t164,t165⟩,A4,H⟩:=bs_ H
 try dsimp only at H
 have H':=am H
 clear H
 go_enter Tryz.func29,Tryz.ntmps29
 go_wp2_with (first|((with_reducible refine gc_ 56 rfl ?_);refine gM_ (some 16) Tryz.func56 (spec_l1Cur_pick.calls g s0_0 s0_1 s0_2 2 t153 t154 t155 w0 _ ?side1 ?side2 A2.1) ?_;(case side1=>exact(Z2 HI0));(case side2=>exact ZB);rintro w5 ⟨hi,hb,hk⟩;replace HK:=am (KeepBut.trans Z4 hk (.inl rfl));replace HB:=am hb;replace HI0:=am hi;clear hb hk hi)|((with_reducible refine gc_ 27 rfl ?_);refine gE_ (some 17) Tryz.func27 (spec_StartConfig.calls t153 t156 t157 _ A3.1) ?_;rintro v158 w6 ⟨ho0,hb⟩;have HOoe:=am (Kd.R_lower ho0 (keep_size (w:=w) (g:=g) (row:=none) Z4));replace HK:=am (KeepBut.trans Z4 (KeepBut.of_below hb g none) (.inl rfl));replace HB:=bw_ hb;replace HI0:=am (IsS58.below (Z2 HI0) hb);clear hb;(try clear ho0))|((with_reducible refine gd_ 21 rfl ?_);refine Kd.R_lit (Kd.int .i64) _ 3 ?hg (N:=21) ?hd (xs:=([0,0,1,2,3,5]:List Int)) (inner:=[.int .i64 0,.int .i64 0,.int .i64 1,.int .i64 2,.int .i64 3,.int .i64 5]) (ok:=fun _=>True) (okp:=fun _=>True) ?hr ?hp (fun _ hk=>hk) trivial (Below.refl _ _) (Nat.le_refl _) (by simp) ?_;(case hd=>rfl);(case hg=>rfl);(case hr=>first|(go_simp;done)|(go_simp;rfl));(case hp=>exact(Reps.one (show Kd.M (Kd.int .i64) _ _ _ 0 [.int .i64 0]from rfl) (Reps.one (show Kd.M (Kd.int .i64) _ _ _ 0 [.int .i64 0]from rfl) (Reps.one (show Kd.M (Kd.int .i64) _ _ _ 1 [.int .i64 1]from rfl) (Reps.one (show Kd.M (Kd.int .i64) _ _ _ 2 [.int .i64 2]from rfl) (Reps.one (show Kd.M (Kd.int .i64) _ _ _ 3 [.int .i64 3]from rfl) (Reps.one (show Kd.M (Kd.int .i64) _ _ _ 5 [.int .i64 5]from rfl) (Reps.none _ _))))))));intro v161 w7 ho8 hb hg_ hnew_;clear hg_ hnew_;(first|rw[←Ny_a.1]at ho8|(simp only[Int.reduceToNat]at ho8;rw[←Ny_a.1]at ho8));replace HOoe:=am (Kd.R_below (Z1 HOoe) hb);have HOof:=am (Kd.R_lower ho8 (keep_size (w:=w) (g:=g) (row:=none) Z4));replace HK:=am (KeepBut.trans Z4 (KeepBut.of_below hb g none) (.inl rfl));replace HB:=bw_ hb;replace HI0:=am (IsS58.below (Z2 HI0) hb);clear hb ho8;obtain⟨Ao9,co9,eo9⟩:=Kd.R_slice HOof.1;subst eo9)|((with_reducible refine gc_ 31 rfl ?_);refine gM_ (some 22) Tryz.func31 (spec_l1Cur_among.calls g s0_0 t154 t155 _ _ y_a t163 t164 t165 w0 _ ?side1 ?side2 ?side3 ?side4 ?side5 A4.1) ?_;(case side1=>exact(Z2 HI0));(case side2=>exact ZB);(case side3=>exact(Z10 HOof));(case side4=>exact(Kd.R_reads' HOof.1).2.1);(case side5=>exact far_slice (IsS58.own_ne HI0.1 HOof.1 (by decide)));rintro w10 ⟨hi,hb,hk⟩;replace HOoe:=am (Kd.R_mono (Kd.R_keep (IsS58.apart (show IsS58 w0 _ g s0_0 t154 t155 from(Z2 HI0)) (Z1 HOoe) (by decide)) hk (fun _ h=>h.2)) (fun _ h=>h.1));replace HOof:=am (Kd.R_mono (Kd.R_keep (IsS58.apart (show IsS58 w0 _ g s0_0 t154 t155 from(Z2 HI0)) (Z1 HOof) (by decide)) hk (fun _ h=>h.2)) (fun _ h=>h.1));replace HK:=am (KeepBut.trans Z4 hk (.inl rfl));replace HB:=am hb;replace HI0:=am hi;clear hb hk hi))
 go_loopg [3,5] k (fun kq v3 v5 w'=>∃(x3_1:List (S37)) (x5_1:Int) (x1001_1:Int) (x1002_1:Int),v5= .int .i64 x5_1∧Aside0 (spec_l1Cur_config.l0 kq x3_1 x5_1 s0_0 x1001_1 x1002_1=some (r1,r2,r3))∧Aside0 (kq≤k)∧Aside0 (Kd.R k37 37 w' w.heap.size (fun _=>True) v3 x3_1)∧Aside0 (IsS58 w0 w' g s0_0 x1001_1 x1002_1)∧Aside0 (KeepBut w w' g none)∧Aside0 (Below w0.heap.size w0 w'))
 case atStart=>exact⟨(t156),(t163),(t164),(t165),Z7,H',⟨Nat.le_refl _⟩,⟨(Z1 HOoe)⟩,⟨(Z2 HI0)⟩,⟨Z4⟩,⟨ZB⟩⟩
 clear H'
 obtain⟨x3_1,x5_1,x1001_1,x1002_1,rfl,HA,HK1,HO_3,HI0,HK,HB⟩:=hrel
 obtain _|k1:=gk
 ·
  exact absurd HA.out (by simp[spec_l1Cur_config.l0])
 have H:=HA.out
 clear HA
 simp only[spec_l1Cur_config.l0]at H
 by_cases c11:x5_1>0
 ·
  rw[if_pos c11]at H
  have c11b0:decide (0<x5_1)=true:=decide_eq_true c11
  clear c11
  obtain⟨⟨t166,t167,t168⟩,A12,H⟩:=bs_ H
  try dsimp only at H
  obtain⟨t169,A13,H⟩:=bs_ H
  try dsimp only at H
  have H':=am H
  clear H
  go_wp2_with (first|((with_reducible refine gc_ 56 rfl ?_);refine gM_ (some 29) Tryz.func56 (spec_l1Cur_pick.calls g s0_0 x1001_1 x1002_1 4 t166 t167 t168 w0 _ ?side1 ?side2 A12.1) ?_;(case side1=>exact(Z2 HI0));(case side2=>exact ZB);rintro w14 ⟨hi,hb,hk⟩;replace HO_3:=am (Kd.R_mono (Kd.R_keep (IsS58.apart (show IsS58 w0 _ g s0_0 x1001_1 x1002_1 from(Z2 HI0)) (Z1 HO_3) (by decide)) hk (fun _ h=>h.2)) (fun _ h=>h.1));replace HK:=am (KeepBut.trans Z4 hk (.inl rfl));replace HB:=am hb;replace HI0:=am hi;clear hb hk hi;obtain⟨Ao15,co15,eo15⟩:=Kd.R_slice HO_3.1;subst eo15)|((with_reducible refine gc_ 46 rfl ?_);refine gE_ (some 30) Tryz.func46 (spec_ciSwap.calls k1 _ _ x3_1 t166 t169 _ ?side1 ?side2 A13.1) ?_;(case side1=>exact(Z10 HO_3));(case side2=>exact(Kd.R_reads' HO_3.1).2.1);rintro v170 w16 ⟨ho0,hb⟩;have HOog:=am (Kd.R_lower (Kd.R_new' ho0 (Kd.R_lt (Z1 HO_3))) (keep_size (w:=w) (g:=g) (row:=none) Z4));replace HO_3:=am (Kd.R_elder' (Z1 HO_3) (Kd.R_base ho0) hb);replace HK:=am (KeepBut.trans Z4 (KeepBut.of_below hb g none) (.inl rfl));replace HB:=bw_ hb;replace HI0:=am (IsS58.below (Z2 HI0) hb);clear hb;(try clear ho0)))
  go_roundg k1
  case measure=>have:=HK1.1;omega
  exact⟨(t169),(wrap64 (x5_1-1)),(t167),(t168),Z7,H',⟨Z34⟩,⟨(Z20 HOog)⟩,⟨(Z2 HI0)⟩,⟨Z4⟩,⟨ZB⟩⟩
 rw[if_neg c11]at H
 have c11b0:decide (0<x5_1)=false:=decide_eq_false c11
 clear c11
 obtain⟨⟨t172,t173,t174⟩,A17,H⟩:=bs_ H
 try dsimp only at H
 have HC18:=am H
 clear H
 go_upto_if 33 with(first|((with_reducible refine gc_ 28 rfl ?_);refine gM_ (some 33) Tryz.func28 (spec_l1Cur_one.calls g s0_0 x1001_1 x1002_1 3 t172 t173 t174 w0 _ ?side1 ?side2 A17.1) ?_;(case side1=>exact(Z2 HI0));(case side2=>exact ZB);rintro w19 ⟨hi,hb,hk⟩;replace HO_3:=am (Kd.R_mono (Kd.R_keep (IsS58.apart (show IsS58 w0 _ g s0_0 x1001_1 x1002_1 from(Z2 HI0)) (Z1 HO_3) (by decide)) hk (fun _ h=>h.2)) (fun _ h=>h.1));replace HK:=am (KeepBut.trans Z4 hk (.inl rfl));replace HB:=am hb;replace HI0:=am hi;clear hb hk hi))
 (try simp only[Act.put,List.setIfInBounds_toArray,List.set_cons_zero,List.set_cons_succ])
 go_cut[3] (fun v3 wc=>∃(kq:Nat) (x3_17:List (S37)) (x1001_17:Int) (x1002_17:Int),Aside0 (spec_l1Cur_config.j2 kq x3_17 s0_0 x1001_17 x1002_17=some (r1,r2,r3))∧Aside0 (kq≤k1)∧Aside0 (Kd.R k37 37 wc w.heap.size (fun _=>True) v3 x3_17)∧Aside0 (IsS58 w0 wc g s0_0 x1001_17 x1002_17)∧Aside0 (KeepBut w wc g none)∧Aside0 (Below w0.heap.size w0 wc))
 case first=>
  have H:=HC18.1
  clear HC18
  by_cases c20:t172=true
  rotate_left
  ·
   replace c20:=Bool.eq_false_iff.mpr c20
   subst c20
   rw[if_neg (show¬(false=true) by decide)]at H
   have H':=am H
   clear H
   go_wp2
   go_meet
   exact⟨_,(x3_1),(t173),(t174),H',⟨(by have:=HK1.1;first|omega|exact Nat.le_refl _)⟩,⟨(Z1 HO_3)⟩,⟨(Z2 HI0)⟩,⟨Z4⟩,⟨ZB⟩⟩
  subst c20
  rw[if_pos rfl]at H
  obtain⟨⟨t175,t176,t177⟩,A21,H⟩:=bs_ H
  try dsimp only at H
  obtain⟨⟨t178,t179,t180⟩,A22,H⟩:=bs_ H
  try dsimp only at H
  have H':=am H
  clear H
  go_wp2_with (first|((with_reducible refine gc_ 56 rfl ?_);refine gM_ (some 35) Tryz.func56 (spec_l1Cur_pick.calls g s0_0 t173 t174 5 t175 t176 t177 w0 _ ?side1 ?side2 A21.1) ?_;(case side1=>exact(Z2 HI0));(case side2=>exact ZB);rintro w23 ⟨hi,hb,hk⟩;replace HO_3:=am (Kd.R_mono (Kd.R_keep (IsS58.apart (show IsS58 w0 _ g s0_0 t173 t174 from(Z2 HI0)) (Z1 HO_3) (by decide)) hk (fun _ h=>h.2)) (fun _ h=>h.1));replace HK:=am (KeepBut.trans Z4 hk (.inl rfl));replace HB:=am hb;replace HI0:=am hi;clear hb hk hi)|((with_reducible refine gc_ 56 rfl ?_);refine gM_ (some 38) Tryz.func56 (spec_l1Cur_pick.calls g s0_0 t176 t177 5 t178 t179 t180 w0 _ ?side1 ?side2 A22.1) ?_;(case side1=>exact(Z2 HI0));(case side2=>exact ZB);rintro w24 ⟨hi,hb,hk⟩;replace HO_3:=am (Kd.R_mono (Kd.R_keep (IsS58.apart (show IsS58 w0 _ g s0_0 t176 t177 from(Z2 HI0)) (Z1 HO_3) (by decide)) hk (fun _ h=>h.2)) (fun _ h=>h.1));replace HK:=am (KeepBut.trans Z4 hk (.inl rfl));replace HB:=am hb;replace HI0:=am hi;clear hb hk hi;obtain⟨Ao25,co25,eo25⟩:=Kd.R_slice HO_3.1;subst eo25))
  go_loopg [7,42] k1 (fun kq v7 v42 w'=>∃(x7_2:List (S37)) (x42_2:Int),v42= .int .i64 x42_2∧Aside0 (spec_l1Cur_config.l1 kq x7_2 (wrap64 (t175-2)) (wrap64 (t178-2)) x3_1 (x3_1.length:Int) x42_2 s0_0 t179 t180=some (r1,r2,r3))∧Aside0 (kq≤k1)∧Aside0 (Kd.R k37 37 w' w.heap.size (fun k_=>some k_≠((.slice Ao25 x3_1.length co25):Value).ownBlock) v7 x7_2)∧Aside0 (Kd.R k37 37 w' w.heap.size (fun k_=>some k_≠(v7:Value).ownBlock) (.slice Ao25 x3_1.length co25) x3_1)∧Aside0 (IsS58 w0 w' g s0_0 t179 t180)∧Aside0 (KeepBut w w' g none)∧Aside0 (Below w0.heap.size w0 w'))
  case atStart=>exact⟨(([]:List (S37))),(0),Z7,H',⟨Nat.le_refl _⟩,⟨Z23⟩,⟨(by(with_reducible repeat(first|apply Kd.R_alloc|apply Kd.R_drewN|apply Kd.R_drew));exact Kd.R_mono HO_3.1 (fun _ hk=>(by simp[Value.ownBlock])))⟩,⟨(Z2 HI0)⟩,⟨Z4⟩,⟨ZB⟩⟩
  clear H'
  obtain⟨x7_2,x42_2,rfl,HA,HK2,HO_7,HO_40,HI0,HK,HB⟩:=hrel
  obtain _|k2:=gk
  ·
   exact absurd HA.out (by simp[spec_l1Cur_config.l1])
  have H:=HA.out
  clear HA
  simp only[spec_l1Cur_config.l1]at H
  by_cases c26:x42_2<(x3_1.length:Int)
  rotate_left
  ·
   rw[if_neg c26]at H
   have c26b0:=decide_eq_false c26
   clear c26
   (first|rw[c26b0]|(simp only[i64_w,i32_w];rw[c26b0])|skip)
   have H':=am H
   clear H
   go_wp2
   go_meet
   exact⟨_,(x7_2),(t179),(t180),H',⟨(by have:=HK1.1;have:=HK2.1;first|omega|exact Nat.le_refl _)⟩,⟨(Z20 HO_7)⟩,⟨(Z2 HI0)⟩,⟨Z4⟩,⟨ZB⟩⟩
  rw[if_pos c26]at H
  have c26b0:=decide_eq_true c26
  clear c26
  (first|rw[c26b0]|(simp only[i64_w,i32_w];rw[c26b0])|skip)
  obtain⟨c27,H⟩:=ip_ H
  have c27b0:=decide_eq_true c27
  clear c27
  obtain⟨c28,H⟩:=ip_ H
  have c28b0:=decide_eq_true c28
  clear c28
  obtain⟨⟨t183,t184,t185,t186,t187⟩,A29,H⟩:=bs_ H
  try dsimp only at H
  by_cases c30:t187=true
  rotate_left
  ·
   replace c30:=Bool.eq_false_iff.mpr c30
   subst c30
   rw[if_neg (show¬(false=true) by decide)]at H
   have H':=am H
   clear H
   have p181:0≤(x42_2:Int):=of_decide_eq_true Z5
   have q181:x42_2<(x3_1.length:Int):=of_decide_eq_true Z5
   obtain⟨ad181,e181,hx181_0,hx181_1,hx181_2,hx181_3⟩:=at_T37 (Kd.R_reads' HO_40.1).2.2 x42_2 p181 q181
   cases e181
   replace p181:=eq_true p181
   replace q181:=eq_true q181
   go_wp2_with (first|((with_reducible refine gd_ 11 rfl ?_);refine boxN_ 11 #[.int .i64 0,.int .i64 0,.int .i64 0,.int .i64 0] 37 ?_;intro gbob hg w41 hbox hb;replace HO_7:=am (Kd.R_below (Kd.R_elderB (Z1 HO_7) gbob (Nat.le_of_eq hg.symm)) hb);replace HO_40:=am (Kd.R_below (Kd.R_elderB (Z1 HO_40) gbob (Nat.le_of_eq hg.symm)) hb);replace HB:=bw_ hb;have BKob:=am hbox;have GWob:=am ((by rw[hg];exact(keep_size (w:=w) (g:=g) (row:=none) Z4):w.heap.size≤gbob));have GEob:=am ((Nat.le_trans HW0.out (by rw[hg];exact(keep_size (w:=w) (g:=g) (row:=none) Z4):w.heap.size≤gbob):w0.heap.size≤gbob));replace HK:=am (KeepBut.trans Z4 (KeepBut.of_below hb g none) (.inl rfl));have NBoa_ob:=am ((by rw[hg];exact Nat.ne_of_lt (IsS58.lt (show IsS58 w0 _ g s0_0 t179 t180 from(Z2 HI0))):g≠gbob));have NBob_oa:=am ((by rw[hg];exact Nat.ne_of_gt (IsS58.lt (show IsS58 w0 _ g s0_0 t179 t180 from(Z2 HI0))):gbob≠g));replace HI0:=am (IsS58.below (Z2 HI0) hb);clear hb hbox hg;have hnb42:=NBob_oa.1;have hnc42:=NBoa_ob.1;obtain⟨_,_,_,_,_,_,_,_⟩:=cz4_ BKob)|((with_reducible refine gc_ 68 rfl ?_);refine gM_ (some 50) Tryz.func68 (spec_ShiftCircle.calls k2 ((rd_T37 x3_1 x42_2).f0) ((rd_T37 x3_1 x42_2).f1) ((rd_T37 x3_1 x42_2).f2) ((rd_T37 x3_1 x42_2).f3) (wrap64 (t175-2)) (wrap64 (t178-2)) t183 t184 t185 t186 false _ A29.1) ?_;intro w44 hb;replace HO_7:=am (Kd.R_below (Z27 HO_7) hb);replace HO_40:=am (Kd.R_below (Z27 HO_40) hb);replace BKob:=bk_ BKob hb;replace HK:=am (KeepBut.trans Z25 (KeepBut.of_below hb g none) (.inl rfl));replace HB:=bw_ hb;replace HI0:=am (IsS58.below (show IsS58 w0 ((((w41.setCell ⟨gbob,0,none⟩ (.int .i64 ((rd_T37 x3_1 x42_2).f0))).setCell ⟨gbob,1,none⟩ (.int .i64 ((rd_T37 x3_1 x42_2).f1))).setCell ⟨gbob,2,none⟩ (.int .i64 ((rd_T37 x3_1 x42_2).f2))).setCell ⟨gbob,3,none⟩ (.int .i64 ((rd_T37 x3_1 x42_2).f3))) g s0_0 t179 t180 from(Z57 HI0)) hb);clear hb)|((with_reducible refine gd_ 12 rfl ?_);refine boxN_ 12 #[.int .i64 0,.int .i64 0,.int .i64 0,.int .i64 0] 37 ?_;intro gboc hg w45 hbox hb;replace HO_7:=am (Kd.R_below (Kd.R_elderB (Z1 HO_7) gboc (Nat.le_of_eq hg.symm)) hb);replace HO_40:=am (Kd.R_below (Kd.R_elderB (Z1 HO_40) gboc (Nat.le_of_eq hg.symm)) hb);replace HB:=bw_ hb;have BKoc:=am hbox;have GWoc:=am ((by rw[hg];exact(keep_size (w:=w) (g:=g) (row:=none) Z25):w.heap.size≤gboc));have GEoc:=am ((Nat.le_trans HW0.out (by rw[hg];exact(keep_size (w:=w) (g:=g) (row:=none) Z25):w.heap.size≤gboc):w0.heap.size≤gboc));replace HK:=am (KeepBut.trans Z25 (KeepBut.of_below hb g none) (.inl rfl));have NBob_oc:=nl_ BKob hg;have NBoc_ob:=ng_ BKob hg;replace BKob:=bk_ BKob hb;have NBoa_oc:=am ((by rw[hg];exact Nat.ne_of_lt (IsS58.lt (show IsS58 w0 _ g s0_0 t179 t180 from(Z57 HI0))):g≠gboc));have NBoc_oa:=am ((by rw[hg];exact Nat.ne_of_gt (IsS58.lt (show IsS58 w0 _ g s0_0 t179 t180 from(Z57 HI0))):gboc≠g));replace HI0:=am (IsS58.below (Z57 HI0) hb);clear hb hbox hg;have hnb46:=NBoc_ob.1;have hnc46:=NBob_oc.1;have hnb47:=NBoc_oa.1;have hnc47:=NBoa_oc.1;obtain⟨_,_,_,_,_,_,_,_⟩:=cz4_ BKoc))
   go_roundg k2
   case measure=>have:=HK1.1;have:=HK2.1;omega
   exact⟨(x7_2),(wrap64 (x42_2+1)),Z7,H',⟨Z45⟩,⟨(Z42 HO_7)⟩,⟨(Z42 HO_40)⟩,⟨(Z57 HI0)⟩,⟨Z13⟩,⟨ZB⟩⟩
  subst c30
  rw[if_pos rfl]at H
  obtain⟨c31,H⟩:=ip_ H
  have LMc31:=am c31
  clear c31
  obtain⟨y_b,hy_b⟩:∃y_:List (S37),y_=(x7_2++[(⟨t183,t184,t185,t186⟩:S37)]):=⟨_,rfl⟩
  replace H:(spec_l1Cur_config.l1 k2 y_b (wrap64 (t175-2)) (wrap64 (t178-2)) x3_1 (x3_1.length:Int) (wrap64 (x42_2+1)) s0_0 t179 t180)=some (r1,r2,r3):=Z14
  have Ny_b:=am hy_b
  clear hy_b
  have H':=am H
  clear H
  have p181:0≤(x42_2:Int):=of_decide_eq_true Z5
  have q181:x42_2<(x3_1.length:Int):=of_decide_eq_true Z5
  obtain⟨ad181,e181,hx181_0,hx181_1,hx181_2,hx181_3⟩:=at_T37 (Kd.R_reads' HO_40.1).2.2 x42_2 p181 q181
  cases e181
  replace p181:=eq_true p181
  replace q181:=eq_true q181
  go_wp2_with (first|((with_reducible refine gd_ 11 rfl ?_);refine boxN_ 11 #[.int .i64 0,.int .i64 0,.int .i64 0,.int .i64 0] 37 ?_;intro gbob hg w32 hbox hb;replace HO_7:=am (Kd.R_below (Kd.R_elderB (Z1 HO_7) gbob (Nat.le_of_eq hg.symm)) hb);replace HO_40:=am (Kd.R_below (Kd.R_elderB (Z1 HO_40) gbob (Nat.le_of_eq hg.symm)) hb);replace HB:=bw_ hb;have BKob:=am hbox;have GWob:=am ((by rw[hg];exact(keep_size (w:=w) (g:=g) (row:=none) Z4):w.heap.size≤gbob));have GEob:=am ((Nat.le_trans HW0.out (by rw[hg];exact(keep_size (w:=w) (g:=g) (row:=none) Z4):w.heap.size≤gbob):w0.heap.size≤gbob));replace HK:=am (KeepBut.trans Z4 (KeepBut.of_below hb g none) (.inl rfl));have NBoa_ob:=am ((by rw[hg];exact Nat.ne_of_lt (IsS58.lt (show IsS58 w0 _ g s0_0 t179 t180 from(Z2 HI0))):g≠gbob));have NBob_oa:=am ((by rw[hg];exact Nat.ne_of_gt (IsS58.lt (show IsS58 w0 _ g s0_0 t179 t180 from(Z2 HI0))):gbob≠g));replace HI0:=am (IsS58.below (Z2 HI0) hb);clear hb hbox hg;have hnb33:=NBob_oa.1;have hnc33:=NBoa_ob.1;obtain⟨_,_,_,_,_,_,_,_⟩:=cz4_ BKob)|((with_reducible refine gc_ 68 rfl ?_);refine gM_ (some 50) Tryz.func68 (spec_ShiftCircle.calls k2 ((rd_T37 x3_1 x42_2).f0) ((rd_T37 x3_1 x42_2).f1) ((rd_T37 x3_1 x42_2).f2) ((rd_T37 x3_1 x42_2).f3) (wrap64 (t175-2)) (wrap64 (t178-2)) t183 t184 t185 t186 true _ A29.1) ?_;intro w35 hb;replace HO_7:=am (Kd.R_below (Z27 HO_7) hb);replace HO_40:=am (Kd.R_below (Z27 HO_40) hb);replace BKob:=bk_ BKob hb;replace HK:=am (KeepBut.trans Z25 (KeepBut.of_below hb g none) (.inl rfl));replace HB:=bw_ hb;replace HI0:=am (IsS58.below (show IsS58 w0 ((((w32.setCell ⟨gbob,0,none⟩ (.int .i64 ((rd_T37 x3_1 x42_2).f0))).setCell ⟨gbob,1,none⟩ (.int .i64 ((rd_T37 x3_1 x42_2).f1))).setCell ⟨gbob,2,none⟩ (.int .i64 ((rd_T37 x3_1 x42_2).f2))).setCell ⟨gbob,3,none⟩ (.int .i64 ((rd_T37 x3_1 x42_2).f3))) g s0_0 t179 t180 from(Z57 HI0)) hb);clear hb)|((with_reducible refine gd_ 12 rfl ?_);refine boxN_ 12 #[.int .i64 0,.int .i64 0,.int .i64 0,.int .i64 0] 37 ?_;intro gboc hg w36 hbox hb;replace HO_7:=am (Kd.R_below (Kd.R_elderB (Z1 HO_7) gboc (Nat.le_of_eq hg.symm)) hb);replace HO_40:=am (Kd.R_below (Kd.R_elderB (Z1 HO_40) gboc (Nat.le_of_eq hg.symm)) hb);replace HB:=bw_ hb;have BKoc:=am hbox;have GWoc:=am ((by rw[hg];exact(keep_size (w:=w) (g:=g) (row:=none) Z25):w.heap.size≤gboc));have GEoc:=am ((Nat.le_trans HW0.out (by rw[hg];exact(keep_size (w:=w) (g:=g) (row:=none) Z25):w.heap.size≤gboc):w0.heap.size≤gboc));replace HK:=am (KeepBut.trans Z25 (KeepBut.of_below hb g none) (.inl rfl));have NBob_oc:=nl_ BKob hg;have NBoc_ob:=ng_ BKob hg;replace BKob:=bk_ BKob hb;have NBoa_oc:=am ((by rw[hg];exact Nat.ne_of_lt (IsS58.lt (show IsS58 w0 _ g s0_0 t179 t180 from(Z57 HI0))):g≠gboc));have NBoc_oa:=am ((by rw[hg];exact Nat.ne_of_gt (IsS58.lt (show IsS58 w0 _ g s0_0 t179 t180 from(Z57 HI0))):gboc≠g));replace HI0:=am (IsS58.below (Z57 HI0) hb);clear hb hbox hg;have hnb37:=NBoc_ob.1;have hnc37:=NBob_oc.1;have hnb38:=NBoc_oa.1;have hnc38:=NBoa_oc.1;obtain⟨_,_,_,_,_,_,_,_⟩:=cz4_ BKoc)|((with_reducible refine gate_builtin (b:= .append) (xs:=#[.tmp 54,.tmp 56]) rfl ?_);at_builtin;refine Kd.R_append k37 w.heap.size rfl (.tmp 54) (.tmp 56) 24 37 (.agg #[(.int .i64 0),(.int .i64 0),(.int .i64 0),(.int .i64 0)]) 32 rfl Tryz.underlying24 info37 rfl (by decide) (by omega) u7 x7_2 (⟨t183,t184,t185,t186⟩:S37) [.int .i64 t183,.int .i64 t184,.int .i64 t185,.int .i64 t186] (fun k_=>some k_≠(.slice (some ad181) x3_1.length co25:Value).ownBlock∧k_≠gbob∧k_≠gboc) (fun _=>False) rfl Z56 ?aP (fun _ hk=>hk.elim) ?aF ?aO (Below.refl _ _) ?aS ?aL ?_;(case aP=>exact k37_mkM _ _ _ (⟨t183,t184,t185,t186⟩:S37));(case aF=>exact(fun k_ hk=>⟨Kd.fresh' (Kd.R_lt (by(with_reducible repeat(first|apply Kd.R_alloc|apply Kd.R_drewN|apply Kd.R_drew));exact(Kd.R_mono (Kd.R_far (p:=⟨gboc,3,none⟩) (Kd.R_far (p:=⟨gboc,2,none⟩) (Kd.R_far (p:=⟨gboc,1,none⟩) (Kd.R_far (p:=⟨gboc,0,none⟩) (Kd.R_mono HO_40.1 (fun k_ hk=>(⟨hk,hk.2⟩:_∧k_≠gboc))) (fun _ hk=>hk.2) (.int .i64 t183)) (fun _ hk=>hk.2) (.int .i64 t184)) (fun _ hk=>hk.2) (.int .i64 t185)) (fun _ hk=>hk.2) (.int .i64 t186)) (fun _ h_=>h_.1)))) k_ hk,Kd.freshB (bb_ BKob) k_ hk,Kd.freshB (bb_ BKoc) k_ hk⟩));(case aO=>exact(by(with_reducible repeat(first|apply Kd.R_alloc|apply Kd.R_drewN|apply Kd.R_drew));exact Kd.R_mono (Kd.R_far (p:=⟨gboc,3,none⟩) (Kd.R_far (p:=⟨gboc,2,none⟩) (Kd.R_far (p:=⟨gboc,1,none⟩) (Kd.R_far (p:=⟨gboc,0,none⟩) (Kd.R_mono HO_7.1 (fun k_ hk=>(⟨hk,hk.2⟩:_∧k_≠gboc))) (fun _ hk=>hk.2) (.int .i64 t183)) (fun _ hk=>hk.2) (.int .i64 t184)) (fun _ hk=>hk.2) (.int .i64 t185)) (fun _ hk=>hk.2) (.int .i64 t186)) (fun _ hk=>⟨hk.1.1.1,⟨hk.1.1.2,hk.1.2⟩⟩)));(case aS=>exact(keep_size (w:=w) (g:=g) (row:=none) Z13));(case aL=>have:=LMc31.out;omega);intro v190 w40 ho hb hg hat;rw[←Ny_b.1]at ho;replace HO_40:=am (Kd.R_after (ok:=(fun k_=>k_≠gbob∧k_≠gboc)) (by(with_reducible repeat(first|apply Kd.R_alloc|apply Kd.R_drewN|apply Kd.R_drew));exact Kd.R_mono (Kd.R_far (p:=⟨gboc,3,none⟩) (Kd.R_far (p:=⟨gboc,2,none⟩) (Kd.R_far (p:=⟨gboc,1,none⟩) (Kd.R_far (p:=⟨gboc,0,none⟩) (Kd.R_mono HO_40.1 (fun k_ hk=>(⟨hk,hk.2⟩:_∧k_≠gboc))) (fun _ hk=>hk.2) (.int .i64 t183)) (fun _ hk=>hk.2) (.int .i64 t184)) (fun _ hk=>hk.2) (.int .i64 t185)) (fun _ hk=>hk.2) (.int .i64 t186)) (fun _ hk=>⟨⟨hk.1.1.2,hk.1.2⟩,hk.1.1.1⟩)) hg hat);replace BKob:=am (blk_grown (bb_ BKob) hg (Kd.R_away HO_7.1 (fun _ hk=>hk.1.2)));replace BKoc:=am (blk_grown (bb_ BKoc) hg (Kd.R_away HO_7.1 (fun _ hk=>hk.2)));replace HB:=am (below_weaken ZB HL.1 hb);replace HI0:=am (IsS58.grown (show IsS58 w0 _ g s0_0 t179 t180 from(Z57 HI0)) hg (IsS58.own_ne HI0.1 HO_7.1 (by decide)));replace HK:=am (KeepBut.trans Z13 (KeepBut.of_grown hg g) (Kd.R_base2 HO_7.1));have HOoh:=am ho;clear HO_7;clear ho hb hg hat))
  go_roundg k2
  case measure=>have:=HK1.1;have:=HK2.1;omega
  exact⟨(y_b),(wrap64 (x42_2+1)),Z7,H',⟨Z45⟩,⟨(Z32 HOoh)⟩,⟨(Z30 HO_40)⟩,⟨(Z57 HI0)⟩,⟨Z13⟩,⟨ZB⟩⟩
 clear HC18
 obtain⟨kq,x3_17,x1001_17,x1002_17,HA,HJ17,HO_3,HI0,HK,HB⟩:=hcut
 obtain _|kj17:=kq
 ·
  exact absurd HA.out (by simp[spec_l1Cur_config.j2])
 have H:=HA.out
 clear HA
 simp only[spec_l1Cur_config.j2]at H
 obtain⟨⟨t192,t193,t194⟩,A49,H⟩:=bs_ H
 try dsimp only at H
 by_cases c50:t192=0
 rotate_left
 ·
  rw[if_neg c50]at H
  obtain⟨c50b0,c50b1⟩:=ne2_ c50
  by_cases c67:t192=1
  ·
   rw[if_pos c67]at H
   obtain⟨c67b0,c67b1⟩:=eq2_ c67
   clear c67
   obtain⟨c68,H⟩:=ip_ H
   have LMc68:=am c68
   clear c68
   obtain⟨y_c,hy_c⟩:∃y_:List (S37),y_=(x3_17++[(⟨0,0,0,1⟩:S37)]):=⟨_,rfl⟩
   replace H:(some (y_c,t193,t194))=some (r1,r2,r3):=Z24
   have Ny_c:=am hy_c
   clear hy_c
   simp only[Option.some.injEq,Prod.mk.injEq]at H
   obtain⟨rfl,rfl,rfl⟩:=H
   go_wp2_with (first|((with_reducible refine gc_ 56 rfl ?_);refine gM_ (some 61) Tryz.func56 (spec_l1Cur_pick.calls g s0_0 x1001_17 x1002_17 20 t192 t193 t194 w0 _ ?side1 ?side2 A49.1) ?_;(case side1=>exact(Z2 HI0));(case side2=>exact ZB);rintro w69 ⟨hi,hb,hk⟩;replace HO_3:=am (Kd.R_mono (Kd.R_keep (IsS58.apart (show IsS58 w0 _ g s0_0 x1001_17 x1002_17 from(Z2 HI0)) (Z1 HO_3) (by decide)) hk (fun _ h=>h.2)) (fun _ h=>h.1));replace HK:=am (KeepBut.trans Z4 hk (.inl rfl));replace HB:=am hb;replace HI0:=am hi;clear hb hk hi)|((with_reducible refine gate_builtin (b:= .append) (xs:=#[.tmp 81,.tmp 83]) rfl ?_);at_builtin;refine Kd.R_append k37 w.heap.size rfl (.tmp 81) (.tmp 83) 24 37 (.agg #[(.int .i64 0),(.int .i64 0),(.int .i64 0),(.int .i64 0)]) 32 rfl Tryz.underlying24 info37 rfl (by decide) (by omega) u3 x3_17 (⟨0,0,0,1⟩:S37) [.int .i64 0,.int .i64 0,.int .i64 0,.int .i64 1] (fun _=>True) (fun _=>False) rfl rfl ?aP (fun _ hk=>hk.elim) ?aF ?aO (Below.refl _ _) ?aS ?aL ?_;(case aP=>exact k37_mkM _ _ _ (⟨0,0,0,1⟩:S37));(case aF=>exact(fun _ _=>trivial));(case aO=>exact(Z1 HO_3));(case aS=>exact(keep_size (w:=w) (g:=g) (row:=none) Z4));(case aL=>have:=LMc68.out;omega);intro v206 w70 ho hb hg hat;rw[←Ny_c.1]at ho;replace HB:=am (below_weaken ZB HL.1 hb);replace HI0:=am (IsS58.grown (show IsS58 w0 _ g s0_0 t193 t194 from(Z2 HI0)) hg (IsS58.own_ne HI0.1 HO_3.1 (by decide)));replace HK:=am (KeepBut.trans Z4 (KeepBut.of_grown hg g) (Kd.R_base2 HO_3.1));have HOoi:=am ho;clear HO_3;clear ho hb hg hat))
   go_ret
   exact⟨_,Z6,(Z1 HOoi),(Z2 HI0),ZB,Z4⟩
  rw[if_neg c67]at H
  obtain⟨c67b0,c67b1⟩:=ne2_ c67
  by_cases c71:t192=2
  ·
   rw[if_pos c71]at H
   obtain⟨c71b0,c71b1⟩:=eq2_ c71
   clear c71
   simp only[Option.some.injEq,Prod.mk.injEq]at H
   obtain⟨rfl,rfl,rfl⟩:=H
   go_wp2_with (first|((with_reducible refine gc_ 56 rfl ?_);refine gM_ (some 61) Tryz.func56 (spec_l1Cur_pick.calls g s0_0 x1001_17 x1002_17 20 t192 t193 t194 w0 _ ?side1 ?side2 A49.1) ?_;(case side1=>exact(Z2 HI0));(case side2=>exact ZB);rintro w72 ⟨hi,hb,hk⟩;replace HO_3:=am (Kd.R_mono (Kd.R_keep (IsS58.apart (show IsS58 w0 _ g s0_0 x1001_17 x1002_17 from(Z2 HI0)) (Z1 HO_3) (by decide)) hk (fun _ h=>h.2)) (fun _ h=>h.1));replace HK:=am (KeepBut.trans Z4 hk (.inl rfl));replace HB:=am hb;replace HI0:=am hi;clear hb hk hi))
   go_ret
   exact⟨_,Z6,Z23,(Z2 HI0),ZB,Z4⟩
  rw[if_neg c71]at H
  obtain⟨c71b0,c71b1⟩:=ne2_ c71
  simp only[Option.some.injEq,Prod.mk.injEq]at H
  obtain⟨rfl,rfl,rfl⟩:=H
  go_wp2_with (first|((with_reducible refine gc_ 56 rfl ?_);refine gM_ (some 61) Tryz.func56 (spec_l1Cur_pick.calls g s0_0 x1001_17 x1002_17 20 t192 t193 t194 w0 _ ?side1 ?side2 A49.1) ?_;(case side1=>exact(Z2 HI0));(case side2=>exact ZB);rintro w73 ⟨hi,hb,hk⟩;replace HO_3:=am (Kd.R_mono (Kd.R_keep (IsS58.apart (show IsS58 w0 _ g s0_0 x1001_17 x1002_17 from(Z2 HI0)) (Z1 HO_3) (by decide)) hk (fun _ h=>h.2)) (fun _ h=>h.1));replace HK:=am (KeepBut.trans Z4 hk (.inl rfl));replace HB:=am hb;replace HI0:=am hi;clear hb hk hi))
  go_ret
  exact⟨_,Z6,(Z1 HO_3),(Z2 HI0),ZB,Z4⟩
 rw[if_pos c50]at H
 obtain⟨c50b0,c50b1⟩:=eq2_ c50
 clear c50
 by_cases c51:(x3_17.length:Int)>0
 rotate_left
 ·
  rw[if_neg c51]at H
  have c51b0:decide (0<(x3_17.length:Int))=false:=decide_eq_false c51
  have c51b1:decide (0<x3_17.length)=false:=decide_eq_false (by omega)
  clear c51
  simp only[Option.some.injEq,Prod.mk.injEq]at H
  obtain⟨rfl,rfl,rfl⟩:=H
  go_wp2_with (first|((with_reducible refine gc_ 56 rfl ?_);refine gM_ (some 61) Tryz.func56 (spec_l1Cur_pick.calls g s0_0 x1001_17 x1002_17 20 t192 t193 t194 w0 _ ?side1 ?side2 A49.1) ?_;(case side1=>exact(Z2 HI0));(case side2=>exact ZB);rintro w65 ⟨hi,hb,hk⟩;replace HO_3:=am (Kd.R_mono (Kd.R_keep (IsS58.apart (show IsS58 w0 _ g s0_0 x1001_17 x1002_17 from(Z2 HI0)) (Z1 HO_3) (by decide)) hk (fun _ h=>h.2)) (fun _ h=>h.1));replace HK:=am (KeepBut.trans Z4 hk (.inl rfl));replace HB:=am hb;replace HI0:=am hi;clear hb hk hi;obtain⟨Ao66,co66,eo66⟩:=Kd.R_slice HO_3.1;subst eo66))
  go_ret
  exact⟨_,Z6,(Z1 HO_3),(Z2 HI0),ZB,Z4⟩
 rw[if_pos c51]at H
 have c51b0:decide (0<(x3_17.length:Int))=true:=decide_eq_true c51
 have c51b1:decide (0<x3_17.length)=true:=decide_eq_true (by omega)
 clear c51
 obtain⟨⟨t195,t196,t197⟩,A52,H⟩:=bs_ H
 try dsimp only at H
 obtain⟨⟨t198,t199,t200⟩,A53,H⟩:=bs_ H
 try dsimp only at H
 obtain⟨⟨t201,t202,t203⟩,A54,H⟩:=bs_ H
 try dsimp only at H
 obtain⟨c55,H⟩:=ip_ H
 have c55b0:=decide_eq_true c55
 clear c55
 obtain⟨c56,H⟩:=ip_ H
 have c56b0:=decide_eq_true c56
 clear c56
 obtain⟨y_d,hy_d⟩:∃y_:List (S37),y_=(x3_17.set (t195:Int).toNat (⟨t198,wrap64 (t201-1),1,0⟩:S37)):=⟨_,rfl⟩
 replace H:(some (y_d,t202,t203))=some (r1,r2,r3):=Z36
 have Ny_d:=am hy_d
 clear hy_d
 simp only[Option.some.injEq,Prod.mk.injEq]at H
 obtain⟨rfl,rfl,rfl⟩:=H
 go_wp2_with (first|((with_reducible refine gc_ 56 rfl ?_);refine gM_ (some 61) Tryz.func56 (spec_l1Cur_pick.calls g s0_0 x1001_17 x1002_17 20 t192 t193 t194 w0 _ ?side1 ?side2 A49.1) ?_;(case side1=>exact(Z2 HI0));(case side2=>exact ZB);rintro w58 ⟨hi,hb,hk⟩;replace HO_3:=am (Kd.R_mono (Kd.R_keep (IsS58.apart (show IsS58 w0 _ g s0_0 x1001_17 x1002_17 from(Z2 HI0)) (Z1 HO_3) (by decide)) hk (fun _ h=>h.2)) (fun _ h=>h.1));replace HK:=am (KeepBut.trans Z4 hk (.inl rfl));replace HB:=am hb;replace HI0:=am hi;clear hb hk hi;obtain⟨Ao59,co59,eo59⟩:=Kd.R_slice HO_3.1;subst eo59)|((with_reducible refine gc_ 56 rfl ?_);refine gM_ (some 71) Tryz.func56 (spec_l1Cur_pick.calls g s0_0 t193 t194 (x3_17.length:Int) t195 t196 t197 w0 _ ?side1 ?side2 A52.1) ?_;(case side1=>exact(Z2 HI0));(case side2=>exact ZB);rintro w60 ⟨hi,hb,hk⟩;replace HO_3:=am (Kd.R_mono (Kd.R_keep (IsS58.apart (show IsS58 w0 _ g s0_0 t193 t194 from(Z2 HI0)) (Z1 HO_3) (by decide)) hk (fun _ h=>h.2)) (fun _ h=>h.1));replace HK:=am (KeepBut.trans Z4 hk (.inl rfl));replace HB:=am hb;replace HI0:=am hi;clear hb hk hi)|((with_reducible refine gc_ 56 rfl ?_);refine gM_ (some 73) Tryz.func56 (spec_l1Cur_pick.calls g s0_0 t196 t197 3 t198 t199 t200 w0 _ ?side1 ?side2 A53.1) ?_;(case side1=>exact(Z2 HI0));(case side2=>exact ZB);rintro w61 ⟨hi,hb,hk⟩;replace HO_3:=am (Kd.R_mono (Kd.R_keep (IsS58.apart (show IsS58 w0 _ g s0_0 t196 t197 from(Z2 HI0)) (Z1 HO_3) (by decide)) hk (fun _ h=>h.2)) (fun _ h=>h.1));replace HK:=am (KeepBut.trans Z4 hk (.inl rfl));replace HB:=am hb;replace HI0:=am hi;clear hb hk hi)|((with_reducible refine gc_ 56 rfl ?_);refine gM_ (some 75) Tryz.func56 (spec_l1Cur_pick.calls g s0_0 t199 t200 3 t201 t202 t203 w0 _ ?side1 ?side2 A54.1) ?_;(case side1=>exact(Z2 HI0));(case side2=>exact ZB);rintro w62 ⟨hi,hb,hk⟩;replace HO_3:=am (Kd.R_mono (Kd.R_keep (IsS58.apart (show IsS58 w0 _ g s0_0 t199 t200 from(Z2 HI0)) (Z1 HO_3) (by decide)) hk (fun _ h=>h.2)) (fun _ h=>h.1));replace HK:=am (KeepBut.trans Z4 hk (.inl rfl));replace HB:=am hb;replace HI0:=am hi;clear hb hk hi;have p57:0≤(t195:Int):=of_decide_eq_true Z5;have q57:(t195:Int)<((x3_17.length:Int):Int):=of_decide_eq_true Z5;obtain⟨go57,co57,eo57,gbod,gl57,cl57,HG57⟩:=Kd.R_form HO_3.1 (by omega);(first|cases eo57|(injection eo57 with ea_ en_ ec_;(first|subst ea_|(injection ea_ with ea_;subst ea_));subst ec_;clear en_));have GB57:=am gbod;have GG57:=am HG57;clear gbod gl57 HG57;obtain⟨ce57,hcl57,hM57,hcc57,hfr57⟩:=Kd.R_elem HO_3.1 z37 (t195:Int) p57 q57;obtain rfl:=k37_openM hM57;have hx57_0:w62.cell? ⟨go57,(t195:Int).toNat*4,none⟩=some (.int .i64 ((rd_T37 x3_17 t195).f0)):=hcc57 0 _ rfl;have hx57_1:w62.cell? ⟨go57,(t195:Int).toNat*4+1,none⟩=some (.int .i64 ((rd_T37 x3_17 t195).f1)):=hcc57 1 _ rfl;have hx57_2:w62.cell? ⟨go57,(t195:Int).toNat*4+2,none⟩=some (.int .i64 ((rd_T37 x3_17 t195).f2)):=hcc57 2 _ rfl;have hx57_3:w62.cell? ⟨go57,(t195:Int).toNat*4+3,none⟩=some (.int .i64 ((rd_T37 x3_17 t195).f3)):=hcc57 3 _ rfl;have hf57_0:w62.frozen? ⟨go57,(t195:Int).toNat*4,none⟩=false:=hfr57 0;have hf57_1:w62.frozen? ⟨go57,(t195:Int).toNat*4+1,none⟩=false:=hfr57 1;have hf57_2:w62.frozen? ⟨go57,(t195:Int).toNat*4+2,none⟩=false:=hfr57 2;have hf57_3:w62.frozen? ⟨go57,(t195:Int).toNat*4+3,none⟩=false:=hfr57 3;(try clear hcl57);(try clear hcc57);(try clear hfr57);(try clear hM57);replace p57:=eq_true p57;replace q57:=eq_true q57;have HX63:=am (show Kd.R k37 37 w62 w.heap.size (fun _=>True) (.slice (some ⟨go57,0,none⟩) x3_17.length co59) x3_17 from(Z1 HO_3));obtain⟨ce63,hcl63,hM63,hcc63,hfr63⟩:=Kd.R_elem HX63.out z37 (t195:Int) (of_decide_eq_true Z5) (by have h_:(t195:Int)<((x3_17.length:Int):Int):=of_decide_eq_true Z5;first|exact h_|(have e_:=(Kd.R_reads' HO_3.1).1;omega)|simpa using h_);obtain rfl:=k37_openM hM63;have HP63:=Kd.R_seg HX63.out (t195:Int) (of_decide_eq_true Z5) (by have h_:(t195:Int)<((x3_17.length:Int):Int):=of_decide_eq_true Z5;first|exact h_|(have e_:=(Kd.R_reads' HO_3.1).1;omega)|simpa using h_) (seg:=[.int .i64 t198,.int .i64 (wrap64 (t201-1)),.int .i64 1,.int .i64 0]) (j:=0) hcl63 hcc63 (show 4≤4 from by decide) (x':=(⟨t198,wrap64 (t201-1),1,0⟩:S37)) (k37_mkM _ _ _ (⟨t198,wrap64 (t201-1),1,0⟩:S37)) (fun _ hk=>hk);have hx63_0:=hcc63 0 _ rfl;(try simp only[show(k37).sz=4 from rfl,Nat.mul_one,Nat.add_zero]at hx63_0);have hf63_0:=hfr63 0;(try simp only[show(k37).sz=4 from rfl,Nat.mul_one,Nat.add_zero]at hf63_0);have hx63_1:=hcc63 1 _ rfl;(try simp only[show(k37).sz=4 from rfl,Nat.mul_one,Nat.add_zero]at hx63_1);have hf63_1:=hfr63 1;(try simp only[show(k37).sz=4 from rfl,Nat.mul_one,Nat.add_zero]at hf63_1);have hx63_2:=hcc63 2 _ rfl;(try simp only[show(k37).sz=4 from rfl,Nat.mul_one,Nat.add_zero]at hx63_2);have hf63_2:=hfr63 2;(try simp only[show(k37).sz=4 from rfl,Nat.mul_one,Nat.add_zero]at hf63_2);have hx63_3:=hcc63 3 _ rfl;(try simp only[show(k37).sz=4 from rfl,Nat.mul_one,Nat.add_zero]at hx63_3);have hf63_3:=hfr63 3;(try simp only[show(k37).sz=4 from rfl,Nat.mul_one,Nat.add_zero]at hf63_3);(try clear hcl63);(try clear hcc63);(try clear hfr63);(try clear hM63))|((with_reducible refine gate_store (t:=37) (p:=78) rfl ?_);refine store_event (t:=37) (p:=78) (v:=?vo_w64) (w1:=((((w62.setCell ⟨go57,(t195:Int).toNat*4,none⟩ (.int .i64 t198)).setCell ⟨go57,(t195:Int).toNat*4+1,none⟩ (.int .i64 (wrap64 (t201-1)))).setCell ⟨go57,(t195:Int).toNat*4+2,none⟩ (.int .i64 1)).setCell ⟨go57,(t195:Int).toNat*4+3,none⟩ (.int .i64 0))) ?hg ?ho ?hn ?hr ?_;(case ho=>rfl);(case hg=>rfl);(case hn=>rfl);(case hr=>first|(go_simp;done)|(go_simp;rfl));intro w64 hw;have hg:w62.grownBy w64 (some go57):=(by rw[hw];exact HP63.2);have hp_:Kd.R k37 37 w64 w.heap.size (fun _=>True) (.slice (some ⟨go57,0,none⟩) x3_17.length co59) y_d:=(by rw[hw,Ny_d.1];exact HP63.1);clear HP63;replace HI0:=am (IsS58.grown (show IsS58 w0 _ g s0_0 t202 t203 from(Z2 HI0)) hg (IsS58.own_ne HI0.1 HO_3.1 (by decide)));replace HB:=am ((by rw[hw];exact below_set (below_set (below_set (below_set (HB.1) (Nat.le_trans HL.1 GB57.out)) (Nat.le_trans HL.1 GB57.out)) (Nat.le_trans HL.1 GB57.out)) (Nat.le_trans HL.1 GB57.out):Below w0.heap.size w0 w64));replace HK:=am (KeepBut.trans Z4 (KeepBut.of_grown hg g) (Kd.R_base2 HO_3.1));replace HO_3:=am hp_;clear hg hw hp_))
 go_ret
 exact⟨_,Z6,(Z1 HO_3),(Z2 HI0),ZB,Z4⟩
def spec_ciTwice.f (a0_0:Int) (a0_1:Int) (a0_2:Int) (a0_3:Int) (a1_0:Int) (a1_1:Int) (a1_2:Int) (a1_3:Int):Option (Int):=some (wrap64 ((wrap64 ((wrap64 ((wrap64 ((wrap64 (2*a0_2))*a1_2))+(wrap64 ((wrap64 (2*a0_3))*a1_3))))-(wrap64 (a0_0*a1_1))))-(wrap64 (a0_1*a1_0))))
set_option maxHeartbeats 8000000 in
set_option maxRecDepth 100000 in
theorem spec_ciTwice.calls (a0_0:Int) (a0_1:Int) (a0_2:Int) (a0_3:Int) (a1_0:Int) (a1_1:Int) (a1_2:Int) (a1_3:Int) (r:Int) (w:World) (h:spec_ciTwice.f a0_0 a0_1 a0_2 a0_3 a1_0 a1_1 a1_2 a1_3=some r):
  Calls Tryz.prog 58 #[.agg #[.int .i64 a0_0,.int .i64 a0_1,.int .i64 a0_2,.int .i64 a0_3],.agg #[.int .i64 a1_0,.int .i64 a1_1,.int .i64 a1_2,.int .i64 a1_3]] w fun e w'=>e= .returned (.int .i64 r)∧Below w.heap.size w w':=by
 have hu37:=Tryz.underlying37
 have HB:=am (Below.refl w.heap.size w)
 have H:=h
 clear h
 unfold spec_ciTwice.f at H
 obtain rfl:=Option.some.inj H
 go_enter Tryz.func58,Tryz.ntmps58
 go_wp2_with (first|((with_reducible refine gd_ 2 rfl ?_);refine boxN_ 2 #[.int .i64 a0_0,.int .i64 a0_1,.int .i64 a0_2,.int .i64 a0_3] 37 ?_;intro gboa hg w3 hbox hb;have BKoa:=am hbox;have GWoa:=gG_ hg;have GEoa:=gG_ hg;replace HB:=bw_ hb;clear hb hbox hg)|((with_reducible refine gd_ 3 rfl ?_);refine boxN_ 3 #[.int .i64 a1_0,.int .i64 a1_1,.int .i64 a1_2,.int .i64 a1_3] 37 ?_;intro gbob hg w4 hbox hb;have BKob:=am hbox;have GWob:=gG_ hg;have GEob:=gG_ hg;replace HB:=bw_ hb;have NBoa_ob:=nl_ BKoa hg;have NBob_oa:=ng_ BKoa hg;replace BKoa:=bk_ BKoa hb;clear hb hbox hg;have hnb5:=NBoa_ob.1;have hnc5:=NBob_oa.1;obtain⟨_,_,_,_,_,_,_,_⟩:=cz4_ BKoa;obtain⟨_,_,_,_,_,_,_,_⟩:=cz4_ BKob))
 go_ret
 exact⟨Z6,ZB⟩
def spec_ciFour.l0:Nat→List (S37)→Int→Int→Option (Bool)
  |0,_,_,_=>none
  |k+1,x8,x9,x10=>if x10<x9 then(if 0≤x10 then(if x10<(x8.length:Int)then((spec_ciGood.f k ((rd_T37 x8 x10).f0) ((rd_T37 x8 x10).f1) ((rd_T37 x8 x10).f2) ((rd_T37 x8 x10).f3)).bind fun t212=>(if t212=true then(spec_ciFour.l0 k x8 x9 (wrap64 (x10+1)))else(some false)))else(none))else(none))else(some true)
def spec_ciFour.f (k:Nat) (l0:List (S37)):Option (Bool):=if(l0.length:Int)=4 then(spec_ciFour.l0 k l0 (l0.length:Int) 0)else(some false)
theorem spec_ciFour.mono_l:∀k,(∀y0 y1 y2,LeO (spec_ciFour.l0 k y0 y1 y2) (spec_ciFour.l0 (k+1) y0 y1 y2))
  |0=>fun _ _ _ r h=>by simp[spec_ciFour.l0]at h
  |k+1=>by
    have ih0:=spec_ciFour.mono_l k
    · intro y0 y1 y2
      unfold spec_ciFour.l0
      exact mo_
theorem spec_ciFour.mono:∀a0 k,LeO (spec_ciFour.f k a0) (spec_ciFour.f (k+1) a0):=by
  intro a0 k
  have ih0:=spec_ciFour.mono_l k
  unfold spec_ciFour.f
  exact mo_
set_option maxHeartbeats 8000000 in
set_option maxRecDepth 100000 in
theorem spec_ciFour.calls (k:Nat) (A0:Option Addr) (c0:Nat) (l0:List (S37)) (r:Bool) (w:World) (hr0:Kd.C k37 w A0 l0.length l0) (hc0:l0.length≤c0) (h:spec_ciFour.f k l0=some r):
  Calls Tryz.prog 75 #[.slice A0 l0.length c0] w fun e w'=>e= .returned (.bool r)∧Below w.heap.size w w':=by
 have hu37:=Tryz.underlying37
 have HR0:=am hr0
 have HC0:=am hc0
 clear hr0 hc0
 have HB:=am (Below.refl w.heap.size w)
 have H:=h
 clear h
 unfold spec_ciFour.f at H
 by_cases c2:(l0.length:Int)=4
 rotate_left
 ·
  rw[if_neg c2]at H
  obtain⟨c2b0,c2b1⟩:=ne2_ c2
  obtain rfl:=Option.some.inj H
  go_enter Tryz.func75,Tryz.ntmps75
  go_wp2
  go_ret
  exact⟨Z6,ZB⟩
 rw[if_pos c2]at H
 obtain⟨c2b0,c2b1⟩:=eq2_ c2
 clear c2
 have H':=am H
 clear H
 go_enter Tryz.func75,Tryz.ntmps75
 go_wp2
 go_loopg [10] k (fun kq v10 w'=>∃(x10_1:Int),v10= .int .i64 x10_1∧Aside0 (spec_ciFour.l0 kq l0 (l0.length:Int) x10_1=some r)∧Aside0 (kq≤k)∧Aside0 (Below w.heap.size w w'))
 case atStart=>exact⟨(0),Z7,H',⟨Nat.le_refl _⟩,⟨ZB⟩⟩
 clear H'
 obtain⟨x10_1,rfl,HA,HK1,HB⟩:=hrel
 obtain _|k1:=gk
 ·
  exact absurd HA.out (by simp[spec_ciFour.l0])
 have H:=HA.out
 clear HA
 simp only[spec_ciFour.l0]at H
 by_cases c3:x10_1<(l0.length:Int)
 rotate_left
 ·
  rw[if_neg c3]at H
  have c3b0:=decide_eq_false c3
  clear c3
  obtain rfl:=Option.some.inj H
  go_wp2
  go_ret
  exact⟨Z6,ZB⟩
 rw[if_pos c3]at H
 have c3b0:=decide_eq_true c3
 clear c3
 obtain⟨c4,H⟩:=ip_ H
 have c4b0:=decide_eq_true c4
 clear c4
 obtain⟨c5,H⟩:=ip_ H
 have c5b0:=decide_eq_true c5
 clear c5
 obtain⟨t212,A6,H⟩:=bs_ H
 try dsimp only at H
 by_cases c7:t212=true
 ·
  subst c7
  rw[if_pos rfl]at H
  have H':=am H
  clear H
  have p210:0≤(x10_1:Int):=of_decide_eq_true Z5
  have q210:x10_1<(l0.length:Int):=of_decide_eq_true Z5
  obtain⟨ad210,e210,hx210_0,hx210_1,hx210_2,hx210_3⟩:=at_T37 HR0.1 x10_1 p210 q210
  cases e210
  replace hx210_0:=(HB.1.cell (World.block_lt_of_cell? w _ hx210_0)).trans hx210_0
  replace hx210_1:=(HB.1.cell (World.block_lt_of_cell? w _ hx210_1)).trans hx210_1
  replace hx210_2:=(HB.1.cell (World.block_lt_of_cell? w _ hx210_2)).trans hx210_2
  replace hx210_3:=(HB.1.cell (World.block_lt_of_cell? w _ hx210_3)).trans hx210_3
  replace p210:=eq_true p210
  replace q210:=eq_true q210
  go_wp2_with (first|((with_reducible refine gd_ 4 rfl ?_);refine boxN_ 4 #[.int .i64 0,.int .i64 0,.int .i64 0,.int .i64 0] 37 ?_;intro gboa hg w8 hbox hb;have BKoa:=am hbox;have GWoa:=gG_ hg;have GEoa:=gG_ hg;replace HB:=bw_ hb;clear hb hbox hg;obtain⟨_,_,_,_,_,_,_,_⟩:=cz4_ BKoa)|((with_reducible refine gc_ 47 rfl ?_);refine gM_ (some 15) Tryz.func47 (spec_ciGood.calls k1 ((rd_T37 l0 x10_1).f0) ((rd_T37 l0 x10_1).f1) ((rd_T37 l0 x10_1).f2) ((rd_T37 l0 x10_1).f3) true _ A6.1) ?_;intro w10 hb;replace BKoa:=bk_ BKoa hb;replace HB:=bw_ hb;clear hb))
  go_roundg k1
  case measure=>have:=HK1.1;omega
  exact⟨(wrap64 (x10_1+1)),Z7,H',⟨Z34⟩,⟨ZB⟩⟩
 replace c7:=Bool.eq_false_iff.mpr c7
 subst c7
 rw[if_neg (show¬(false=true) by decide)]at H
 obtain rfl:=Option.some.inj H
 have p210:0≤(x10_1:Int):=of_decide_eq_true Z5
 have q210:x10_1<(l0.length:Int):=of_decide_eq_true Z5
 obtain⟨ad210,e210,hx210_0,hx210_1,hx210_2,hx210_3⟩:=at_T37 HR0.1 x10_1 p210 q210
 cases e210
 replace hx210_0:=(HB.1.cell (World.block_lt_of_cell? w _ hx210_0)).trans hx210_0
 replace hx210_1:=(HB.1.cell (World.block_lt_of_cell? w _ hx210_1)).trans hx210_1
 replace hx210_2:=(HB.1.cell (World.block_lt_of_cell? w _ hx210_2)).trans hx210_2
 replace hx210_3:=(HB.1.cell (World.block_lt_of_cell? w _ hx210_3)).trans hx210_3
 replace p210:=eq_true p210
 replace q210:=eq_true q210
 go_wp2_with (first|((with_reducible refine gd_ 4 rfl ?_);refine boxN_ 4 #[.int .i64 0,.int .i64 0,.int .i64 0,.int .i64 0] 37 ?_;intro gboa hg w11 hbox hb;have BKoa:=am hbox;have GWoa:=gG_ hg;have GEoa:=gG_ hg;replace HB:=bw_ hb;clear hb hbox hg;obtain⟨_,_,_,_,_,_,_,_⟩:=cz4_ BKoa)|((with_reducible refine gc_ 47 rfl ?_);refine gM_ (some 15) Tryz.func47 (spec_ciGood.calls k1 ((rd_T37 l0 x10_1).f0) ((rd_T37 l0 x10_1).f1) ((rd_T37 l0 x10_1).f2) ((rd_T37 l0 x10_1).f3) false _ A6.1) ?_;intro w13 hb;replace BKoa:=bk_ BKoa hb;replace HB:=bw_ hb;clear hb))
 go_ret
 exact⟨Z6,ZB⟩
mutual
def spec_ciConfig.l0:Nat→List (S37)→List (S37)→Int→Int→Option (Bool)
  |0,_,_,_,_=>none
  |k+1,x0,x10,x11,x12=>if x12<x11 then(if 0≤x12 then(if x12<(x10.length:Int)then(if x12≤(x0.length:Int)then((some (x0.take (x12:Int).toNat:List (S37))).bind fun y216=>(spec_ciConfig.l1 k x0 x10 x11 x12 y216 (y216.length:Int) 0 ((rd_T37 x10 x12).f0) ((rd_T37 x10 x12).f1) ((rd_T37 x10 x12).f2) ((rd_T37 x10 x12).f3)))else(none))else(none))else(none))else(some true)
def spec_ciConfig.l1:Nat→List (S37)→List (S37)→Int→Int→List (S37)→Int→Int→Int→Int→Int→Int→Option (Bool)
  |0,_,_,_,_,_,_,_,_,_,_,_=>none
  |k+1,x0,x10,x11,x12,x19,x20,x21,x216000,x216001,x216002,x216003=>if x21<x20 then(if 0≤x21 then(if x21<(x19.length:Int)then((spec_ciTwice.f x216000 x216001 x216002 x216003 ((rd_T37 x19 x21).f0) ((rd_T37 x19 x21).f1) ((rd_T37 x19 x21).f2) ((rd_T37 x19 x21).f3)).bind fun t222=>(if t222=(-2)then(spec_ciConfig.l1 k x0 x10 x11 x12 x19 x20 (wrap64 (x21+1)) x216000 x216001 x216002 x216003)else(some false)))else(none))else(none))else(spec_ciConfig.l0 k x0 x10 x11 (wrap64 (x12+1)))
end
def spec_ciConfig.f (k:Nat) (l0:List (S37)):Option (Bool):=(spec_ciFour.f k l0).bind fun t213=>(if t213=true then(spec_ciConfig.l0 k l0 l0 (l0.length:Int) 0)else(some false))
theorem spec_ciConfig.mono_l:∀k,(∀y0 y1 y2 y3,LeO (spec_ciConfig.l0 k y0 y1 y2 y3) (spec_ciConfig.l0 (k+1) y0 y1 y2 y3))∧(∀y0 y1 y2 y3 y4 y5 y6 y7 y8 y9 y10,LeO (spec_ciConfig.l1 k y0 y1 y2 y3 y4 y5 y6 y7 y8 y9 y10) (spec_ciConfig.l1 (k+1) y0 y1 y2 y3 y4 y5 y6 y7 y8 y9 y10))
  |0=>⟨fun _ _ _ _ r h=>by simp[spec_ciConfig.l0]at h,fun _ _ _ _ _ _ _ _ _ _ _ r h=>by simp[spec_ciConfig.l1]at h⟩
  |k+1=>by
    obtain⟨ih0,ih1⟩:=spec_ciConfig.mono_l k
    refine⟨?_,?_⟩
    · intro y0 y1 y2 y3
      unfold spec_ciConfig.l0
      exact mo_
    · intro y0 y1 y2 y3 y4 y5 y6 y7 y8 y9 y10
      unfold spec_ciConfig.l1
      exact mo_
theorem spec_ciConfig.mono:∀a0 k,LeO (spec_ciConfig.f k a0) (spec_ciConfig.f (k+1) a0):=by
  intro a0 k
  obtain⟨ih0,ih1⟩:=spec_ciConfig.mono_l k
  unfold spec_ciConfig.f
  exact mo_
set_option maxHeartbeats 8000000 in
set_option maxRecDepth 100000 in
theorem spec_ciConfig.calls (k:Nat) (A0:Option Addr) (c0:Nat) (l0:List (S37)) (r:Bool) (w:World) (hr0:Kd.C k37 w A0 l0.length l0) (hc0:l0.length≤c0) (h:spec_ciConfig.f k l0=some r):
  Calls Tryz.prog 40 #[.slice A0 l0.length c0] w fun e w'=>e= .returned (.bool r)∧Below w.heap.size w w':=by
 have hu37:=Tryz.underlying37
 have HR0:=am hr0
 have HC0:=am hc0
 clear hr0 hc0
 have HB:=am (Below.refl w.heap.size w)
 have H:=h
 clear h
 unfold spec_ciConfig.f at H
 obtain⟨t213,A2,H⟩:=bs_ H
 try dsimp only at H
 by_cases c3:t213=true
 rotate_left
 ·
  replace c3:=Bool.eq_false_iff.mpr c3
  subst c3
  rw[if_neg (show¬(false=true) by decide)]at H
  obtain rfl:=Option.some.inj H
  go_enter Tryz.func40,Tryz.ntmps40
  go_wp2_with (first|((with_reducible refine gc_ 75 rfl ?_);refine gM_ (some 8) Tryz.func75 (spec_ciFour.calls k _ _ l0 false _ ?side1 ?side2 A2.1) ?_;(case side1=>exact(Z11 HR0));(case side2=>exact HC0.1);intro w29 hb;replace HB:=bw_ hb;clear hb))
  go_ret
  exact⟨Z6,ZB⟩
 subst c3
 rw[if_pos rfl]at H
 have H':=am H
 clear H
 go_enter Tryz.func40,Tryz.ntmps40
 go_wp2_with (first|((with_reducible refine gc_ 75 rfl ?_);refine gM_ (some 8) Tryz.func75 (spec_ciFour.calls k _ _ l0 true _ ?side1 ?side2 A2.1) ?_;(case side1=>exact(Z11 HR0));(case side2=>exact HC0.1);intro w4 hb;replace HB:=bw_ hb;clear hb))
 go_loopg [12] k (fun kq v12 w'=>∃(x12_1:Int),v12= .int .i64 x12_1∧Aside0 (spec_ciConfig.l0 kq l0 l0 (l0.length:Int) x12_1=some r)∧Aside0 (kq≤k)∧Aside0 (Below w.heap.size w w'))
 case atStart=>exact⟨(0),Z7,H',⟨Nat.le_refl _⟩,⟨ZB⟩⟩
 clear H'
 obtain⟨x12_1,rfl,HA,HK1,HB⟩:=hrel
 obtain _|k1:=gk
 ·
  exact absurd HA.out (by simp[spec_ciConfig.l0])
 have H:=HA.out
 clear HA
 simp only[spec_ciConfig.l0]at H
 by_cases c5:x12_1<(l0.length:Int)
 rotate_left
 ·
  rw[if_neg c5]at H
  have c5b0:=decide_eq_false c5
  clear c5
  obtain rfl:=Option.some.inj H
  go_wp2
  go_ret
  exact⟨Z6,ZB⟩
 rw[if_pos c5]at H
 have c5b0:=decide_eq_true c5
 clear c5
 obtain⟨c6,H⟩:=ip_ H
 have c6b0:=decide_eq_true c6
 clear c6
 obtain⟨c7,H⟩:=ip_ H
 have c7b0:=decide_eq_true c7
 clear c7
 have c8b0:=eq_true (of_decide_eq_true Z5:0≤x12_1)
 obtain⟨c9,H⟩:=ip_ H
 have c9b0:=eq_true c9
 have c9b1:=decide_eq_true c9
 clear c9
 obtain⟨y_a,hy_a⟩:∃y_:List (S37),y_=(l0.take (x12_1:Int).toNat):=⟨_,rfl⟩
 replace H:(spec_ciConfig.l1 k1 l0 l0 (l0.length:Int) x12_1 y_a (y_a.length:Int) 0 ((rd_T37 l0 x12_1).f0) ((rd_T37 l0 x12_1).f1) ((rd_T37 l0 x12_1).f2) ((rd_T37 l0 x12_1).f3))=some r:=Z8
 have Ny_a:=am hy_a
 clear hy_a
 have H':=am H
 clear H
 have p214:0≤(x12_1:Int):=of_decide_eq_true Z5
 have q214:x12_1<(l0.length:Int):=of_decide_eq_true Z5
 obtain⟨ad214,e214,hx214_0,hx214_1,hx214_2,hx214_3⟩:=at_T37 HR0.1 x12_1 p214 q214
 cases e214
 replace hx214_0:=(HB.1.cell (World.block_lt_of_cell? w _ hx214_0)).trans hx214_0
 replace hx214_1:=(HB.1.cell (World.block_lt_of_cell? w _ hx214_1)).trans hx214_1
 replace hx214_2:=(HB.1.cell (World.block_lt_of_cell? w _ hx214_2)).trans hx214_2
 replace hx214_3:=(HB.1.cell (World.block_lt_of_cell? w _ hx214_3)).trans hx214_3
 replace p214:=eq_true p214
 replace q214:=eq_true q214
 go_wp2_with (first|((with_reducible refine gd_ 4 rfl ?_);refine boxN_ 4 #[.int .i64 0,.int .i64 0,.int .i64 0,.int .i64 0] 37 ?_;intro gboa hg w10 hbox hb;have BKoa:=am hbox;have GWoa:=gG_ hg;have GEoa:=gG_ hg;replace HB:=bw_ hb;clear hb hbox hg;obtain⟨_,_,_,_,_,_,_,_⟩:=cz4_ BKoa)|((with_reducible refine gate_store (t:=37) (p:=4) rfl ?_);refine store_event (t:=37) (p:=4) (v:=?vo_w12) (w1:=((((w10.setCell ⟨gboa,0,none⟩ (.int .i64 ((rd_T37 l0 x12_1).f0))).setCell ⟨gboa,1,none⟩ (.int .i64 ((rd_T37 l0 x12_1).f1))).setCell ⟨gboa,2,none⟩ (.int .i64 ((rd_T37 l0 x12_1).f2))).setCell ⟨gboa,3,none⟩ (.int .i64 ((rd_T37 l0 x12_1).f3)))) ?hg ?ho ?hn ?hr ?_;(case ho=>rfl);(case hg=>rfl);(case hn=>rfl);(case hr=>first|(go_simp;done)|(go_simp;rfl));intro w12 hw;have n0_:Aside0 (w12.heap[gboa]?=some (.cells #[.int .i64 ((rd_T37 l0 x12_1).f0),.int .i64 ((rd_T37 l0 x12_1).f1),.int .i64 ((rd_T37 l0 x12_1).f2),.int .i64 ((rd_T37 l0 x12_1).f3)] 37 (0,0))):=⟨(by rw[hw];exact(bb_ BKoa))⟩;have n1_:Aside0 (Below w.heap.size w w12):=⟨(by rw[hw];exact ZB)⟩;clear hw;clear BKoa;clear HB;have BKoa:=n0_;have HB:=n1_;clear n0_ n1_;have q13:(x12_1:Int)≤((l0.length:Int):Int):=of_decide_eq_true Z5;obtain⟨i013,hi013,_,hsz13,_⟩:=info_parts info37;have hroom13:l0.length≤c0:=HC0.1;have hC13:Kd.C k37 _ (some ad214) l0.length l0:=HR0.1;have hcut13:=cut_to (P:=Tryz.prog) 24 37 .i64 Tryz.underlying24 hi013 (some ad214) l0.length c0 x12_1 (of_decide_eq_true Z5) q13 hroom13;have hr13:=Kd.C_take (m:=(x12_1:Int).toNat) hC13 (by omega);have hy13:y_a.length=(x12_1:Int).toNat:=(by rw[Ny_a.1,List.length_take];omega);rw[←Ny_a.1]at hr13;rw[←hy13]at hcut13;have HR219:=am hr13;have HC219:=am (show y_a.length≤c0 from by omega);clear hr13 hC13 hroom13 hi013 hsz13;have KY13:=am hy13;clear hy13;replace q13:=eq_true q13))
 go_loopg [21] k1 (fun kq v21 w'=>∃(x21_2:Int),v21= .int .i64 x21_2∧Aside0 (spec_ciConfig.l1 kq l0 l0 (l0.length:Int) x12_1 y_a (y_a.length:Int) x21_2 ((rd_T37 l0 x12_1).f0) ((rd_T37 l0 x12_1).f1) ((rd_T37 l0 x12_1).f2) ((rd_T37 l0 x12_1).f3)=some r)∧Aside0 (kq≤k1)∧Aside0 (w'.heap[gboa]?=some (.cells #[.int .i64 ((rd_T37 l0 x12_1).f0),.int .i64 ((rd_T37 l0 x12_1).f1),.int .i64 ((rd_T37 l0 x12_1).f2),.int .i64 ((rd_T37 l0 x12_1).f3)] 37 (0,0)))∧Aside0 (Below w.heap.size w w'))
 case atStart=>exact⟨(0),Z7,H',⟨Nat.le_refl _⟩,⟨(bb_ BKoa)⟩,⟨ZB⟩⟩
 clear H'
 obtain⟨x21_2,rfl,HA,HK2,BKoa,HB⟩:=hrel
 obtain _|k2:=gk
 ·
  exact absurd HA.out (by simp[spec_ciConfig.l1])
 have H:=HA.out
 clear HA
 simp only[spec_ciConfig.l1]at H
 by_cases c14:x21_2<(y_a.length:Int)
 rotate_left
 ·
  rw[if_neg c14]at H
  have c14b0:=decide_eq_false c14
  clear c14
  have H':=am H
  clear H
  go_wp2
  go_roundg k2
  case measure=>have:=HK1.1;have:=HK2.1;omega
  exact⟨(wrap64 (x12_1+1)),Z7,H',⟨Z45⟩,⟨ZB⟩⟩
 rw[if_pos c14]at H
 have c14b0:=decide_eq_true c14
 clear c14
 obtain⟨c15,H⟩:=ip_ H
 have c15b0:=decide_eq_true c15
 clear c15
 obtain⟨c16,H⟩:=ip_ H
 have c16b0:=decide_eq_true c16
 clear c16
 obtain⟨t222,A17,H⟩:=bs_ H
 try dsimp only at H
 by_cases c18:t222=(-2)
 rotate_left
 ·
  rw[if_neg c18]at H
  obtain⟨c18b0,c18b1⟩:=ne2_ c18
  obtain rfl:=Option.some.inj H
  have p220:0≤(x21_2:Int):=of_decide_eq_true Z5
  have q220:x21_2<(y_a.length:Int):=of_decide_eq_true Z5
  obtain⟨ad220,e220,hx220_0,hx220_1,hx220_2,hx220_3⟩:=at_T37 HR219.1 x21_2 p220 q220
  obtain rfl:ad214=ad220:=(by injection e220)
  replace hx220_0:=(HB.1.cell (World.block_lt_of_cell? w _ hx220_0)).trans hx220_0
  replace hx220_1:=(HB.1.cell (World.block_lt_of_cell? w _ hx220_1)).trans hx220_1
  replace hx220_2:=(HB.1.cell (World.block_lt_of_cell? w _ hx220_2)).trans hx220_2
  replace hx220_3:=(HB.1.cell (World.block_lt_of_cell? w _ hx220_3)).trans hx220_3
  replace p220:=eq_true p220
  replace q220:=eq_true q220
  go_wp2_with (first|((with_reducible refine gd_ 6 rfl ?_);refine boxN_ 6 #[.int .i64 0,.int .i64 0,.int .i64 0,.int .i64 0] 37 ?_;intro gbob hg w24 hbox hb;have BKob:=am hbox;have GWob:=gG_ hg;have GEob:=gG_ hg;replace HB:=bw_ hb;have NBoa_ob:=nl_ BKoa hg;have NBob_oa:=ng_ BKoa hg;replace BKoa:=bk_ BKoa hb;clear hb hbox hg;have hnb25:=NBob_oa.1;have hnc25:=NBoa_ob.1;obtain⟨_,_,_,_,_,_,_,_⟩:=cz4_ BKob;obtain⟨_,_,_,_,_,_,_,_⟩:=cz4_ BKoa)|((with_reducible refine gc_ 58 rfl ?_);refine gM_ (some 27) Tryz.func58 (spec_ciTwice.calls ((rd_T37 l0 x12_1).f0) ((rd_T37 l0 x12_1).f1) ((rd_T37 l0 x12_1).f2) ((rd_T37 l0 x12_1).f3) ((rd_T37 y_a x21_2).f0) ((rd_T37 y_a x21_2).f1) ((rd_T37 y_a x21_2).f2) ((rd_T37 y_a x21_2).f3) t222 _ A17.1) ?_;intro w28 hb;replace BKoa:=bk_ BKoa hb;replace BKob:=bk_ BKob hb;replace HB:=bw_ hb;clear hb))
  go_ret
  exact⟨Z6,ZB⟩
 rw[if_pos c18]at H
 obtain⟨c18b0,c18b1⟩:=eq2_ c18
 clear c18
 have H':=am H
 clear H
 have p220:0≤(x21_2:Int):=of_decide_eq_true Z5
 have q220:x21_2<(y_a.length:Int):=of_decide_eq_true Z5
 obtain⟨ad220,e220,hx220_0,hx220_1,hx220_2,hx220_3⟩:=at_T37 HR219.1 x21_2 p220 q220
 obtain rfl:ad214=ad220:=(by injection e220)
 replace hx220_0:=(HB.1.cell (World.block_lt_of_cell? w _ hx220_0)).trans hx220_0
 replace hx220_1:=(HB.1.cell (World.block_lt_of_cell? w _ hx220_1)).trans hx220_1
 replace hx220_2:=(HB.1.cell (World.block_lt_of_cell? w _ hx220_2)).trans hx220_2
 replace hx220_3:=(HB.1.cell (World.block_lt_of_cell? w _ hx220_3)).trans hx220_3
 replace p220:=eq_true p220
 replace q220:=eq_true q220
 go_wp2_with (first|((with_reducible refine gd_ 6 rfl ?_);refine boxN_ 6 #[.int .i64 0,.int .i64 0,.int .i64 0,.int .i64 0] 37 ?_;intro gbob hg w19 hbox hb;have BKob:=am hbox;have GWob:=gG_ hg;have GEob:=gG_ hg;replace HB:=bw_ hb;have NBoa_ob:=nl_ BKoa hg;have NBob_oa:=ng_ BKoa hg;replace BKoa:=bk_ BKoa hb;clear hb hbox hg;have hnb20:=NBob_oa.1;have hnc20:=NBoa_ob.1;obtain⟨_,_,_,_,_,_,_,_⟩:=cz4_ BKob;obtain⟨_,_,_,_,_,_,_,_⟩:=cz4_ BKoa)|((with_reducible refine gc_ 58 rfl ?_);refine gM_ (some 27) Tryz.func58 (spec_ciTwice.calls ((rd_T37 l0 x12_1).f0) ((rd_T37 l0 x12_1).f1) ((rd_T37 l0 x12_1).f2) ((rd_T37 l0 x12_1).f3) ((rd_T37 y_a x21_2).f0) ((rd_T37 y_a x21_2).f1) ((rd_T37 y_a x21_2).f2) ((rd_T37 y_a x21_2).f3) t222 _ A17.1) ?_;intro w23 hb;replace BKoa:=bk_ BKoa hb;replace BKob:=bk_ BKob hb;replace HB:=bw_ hb;clear hb))
 go_roundg k2
 case measure=>have:=HK1.1;have:=HK2.1;omega
 exact⟨(wrap64 (x21_2+1)),Z7,H',⟨Z45⟩,⟨(bb_ BKoa)⟩,⟨ZB⟩⟩
mutual
def spec_FollowCircles.j0:Nat→List (S37)→List Int→Bool→Option ((List (S37))× Bool)
  |0,_,_,_=>none
  |k+1,x0,x1,x21=>if x21=true then(some (([]:List (S37)),false))else((some (([]:List (S37)):List (S37))).bind fun y225=>(if y225.length+x0.length<4398046511104 then(spec_FollowCircles.l0 k (y225++x0) x1 (x1.length:Int) 0)else(none)))
def spec_FollowCircles.l0:Nat→List (S37)→List Int→Int→Int→Option ((List (S37))× Bool)
  |0,_,_,_,_=>none
  |k+1,x6,x25,x26,x27=>if x27<x26 then(if 0≤x27 then(if x27<(x25.length:Int)then((spec_ciSwap.f k x6 (rd x25 x27)).bind fun t232=>(if 0≤(rd x25 x27)then(if(rd x25 x27)<(t232.length:Int)then((spec_ciGood.f k ((rd_T37 t232 (rd x25 x27)).f0) ((rd_T37 t232 (rd x25 x27)).f1) ((rd_T37 t232 (rd x25 x27)).f2) ((rd_T37 t232 (rd x25 x27)).f3)).bind fun t236=>(if t236=true then(spec_FollowCircles.l0 k t232 x25 x26 (wrap64 (x27+1)))else(some (([]:List (S37)),false))))else(none))else(none)))else(none))else(none))else(some (x6,true))
end
def spec_FollowCircles.f (k:Nat) (l0:List (S37)) (l1:List Int):Option ((List (S37))× Bool):=(spec_ciConfig.f k l0).bind fun t223=>(if t223=true then(if(l1.length:Int)>40 then(spec_FollowCircles.j0 k l0 l1 true)else((spec_l1All.f k l1 0 3).bind fun t224=>(spec_FollowCircles.j0 k l0 l1 (!t224))))else(spec_FollowCircles.j0 k l0 l1 true))
theorem spec_FollowCircles.mono_l:∀k,(∀y0 y1 y2,LeO (spec_FollowCircles.j0 k y0 y1 y2) (spec_FollowCircles.j0 (k+1) y0 y1 y2))∧(∀y0 y1 y2 y3,LeO (spec_FollowCircles.l0 k y0 y1 y2 y3) (spec_FollowCircles.l0 (k+1) y0 y1 y2 y3))
  |0=>⟨fun _ _ _ r h=>by simp[spec_FollowCircles.j0]at h,fun _ _ _ _ r h=>by simp[spec_FollowCircles.l0]at h⟩
  |k+1=>by
    obtain⟨ih0,ih1⟩:=spec_FollowCircles.mono_l k
    refine⟨?_,?_⟩
    · intro y0 y1 y2
      unfold spec_FollowCircles.j0
      exact mo_
    · intro y0 y1 y2 y3
      unfold spec_FollowCircles.l0
      exact mo_
theorem spec_FollowCircles.mono:∀a0 a1 k,LeO (spec_FollowCircles.f k a0 a1) (spec_FollowCircles.f (k+1) a0 a1):=by
  intro a0 a1 k
  obtain⟨ih0,ih1⟩:=spec_FollowCircles.mono_l k
  unfold spec_FollowCircles.f
  exact mo_
set_option maxHeartbeats 8000000 in
set_option maxRecDepth 100000 in
theorem spec_FollowCircles.calls (k:Nat) (A0:Option Addr) (c0:Nat) (l0:List (S37)) (A1:Option Addr) (c1:Nat) (l1:List Int) (r1:List (S37)) (r2:Bool) (w:World) (hr0:Kd.C k37 w A0 l0.length l0) (hc0:l0.length≤c0) (hr1:Kd.C (Kd.int .i64) w A1 l1.length l1) (hc1:l1.length≤c1) (h:spec_FollowCircles.f k l0 l1=some (r1,r2)):
  Calls Tryz.prog 30 #[.slice A0 l0.length c0,.slice A1 l1.length c1] w fun e w'=>∃v0_:Value,e= .returned (.tuple #[v0_,.bool r2])∧Kd.R k37 37 w' w.heap.size (fun _=>True) v0_ r1∧Below w.heap.size w w':=by
 have hu37:=Tryz.underlying37
 have HR0:=am hr0
 have HC0:=am hc0
 clear hr0 hc0
 have HR1:=am hr1
 have HC1:=am hc1
 clear hr1 hc1
 have HB:=am (Below.refl w.heap.size w)
 have H:=h
 clear h
 unfold spec_FollowCircles.f at H
 have HC3:=am H
 clear H
 go_enter Tryz.func30,Tryz.ntmps30
 go_upto_region 1 with(fail)
 go_cut[21] (fun v21 wc=>∃(kq:Nat) (x21_2:Bool),v21= .bool x21_2∧Aside0 (spec_FollowCircles.j0 kq l0 l1 x21_2=some (r1,r2))∧Aside0 (kq≤k)∧Aside0 (Below w.heap.size w wc))
 case first=>
  have H:=HC3.1
  clear HC3
  obtain⟨t223,A4,H⟩:=bs_ H
  try dsimp only at H
  by_cases c5:t223=true
  rotate_left
  ·
   replace c5:=Bool.eq_false_iff.mpr c5
   subst c5
   rw[if_neg (show¬(false=true) by decide)]at H
   have H':=am H
   clear H
   go_wp2_with (first|((with_reducible refine gc_ 40 rfl ?_);refine gM_ (some 10) Tryz.func40 (spec_ciConfig.calls k _ _ l0 false _ ?side1 ?side2 A4.1) ?_;(case side1=>exact(Z15 HR0));(case side2=>exact HC0.1);intro w10 hb;replace HB:=bw_ hb;clear hb))
   go_meet
   exact⟨_,(true),Z7,H',⟨Z35⟩,⟨ZB⟩⟩
  subst c5
  rw[if_pos rfl]at H
  by_cases c6:(l1.length:Int)>40
  ·
   rw[if_pos c6]at H
   have c6b0:decide (40<(l1.length:Int))=true:=decide_eq_true c6
   have c6b1:decide (40<l1.length)=true:=decide_eq_true (by omega)
   clear c6
   (first|rw[c6b0]|(simp only[i64_w,i32_w];rw[c6b0])|rw[c6b1]|skip)
   have H':=am H
   clear H
   go_wp2_with (first|((with_reducible refine gc_ 40 rfl ?_);refine gM_ (some 10) Tryz.func40 (spec_ciConfig.calls k _ _ l0 true _ ?side1 ?side2 A4.1) ?_;(case side1=>exact(Z15 HR0));(case side2=>exact HC0.1);intro w7 hb;replace HB:=bw_ hb;clear hb))
   go_meet
   exact⟨_,(true),Z7,H',⟨Z35⟩,⟨ZB⟩⟩
  rw[if_neg c6]at H
  have c6b0:decide (40<(l1.length:Int))=false:=decide_eq_false c6
  have c6b1:decide (40<l1.length)=false:=decide_eq_false (by omega)
  clear c6
  (first|rw[c6b0]|(simp only[i64_w,i32_w];rw[c6b0])|rw[c6b1]|skip)
  obtain⟨t224,A8,H⟩:=bs_ H
  try dsimp only at H
  have H':=am H
  clear H
  go_wp2_with (first|((with_reducible refine gc_ 40 rfl ?_);refine gM_ (some 10) Tryz.func40 (spec_ciConfig.calls k _ _ l0 true _ ?side1 ?side2 A4.1) ?_;(case side1=>exact(Z15 HR0));(case side2=>exact HC0.1);intro w9 hb;replace HB:=bw_ hb;clear hb)|(go_at_call 69;(with_reducible refine(spec_l1All.calls k _ _ l1 0 3 t224 _ ?side1 ?side2 A8.1).mono ?_);(case side1=>exact(Z15 HR1));(case side2=>exact HC1.1);rintro e w' ⟨rfl,⟨nd,rfl⟩⟩))
  go_meet
  exact⟨_,(!t224),Z7,H',⟨Z35⟩,⟨ZB⟩⟩
 clear HC3
 obtain⟨kq,x21_2,rfl,HA,HJ2,HB⟩:=hcut
 obtain _|kj2:=kq
 ·
  exact absurd HA.out (by simp[spec_FollowCircles.j0])
 have H:=HA.out
 clear HA
 simp only[spec_FollowCircles.j0]at H
 by_cases c11:x21_2=true
 ·
  subst c11
  rw[if_pos rfl]at H
  simp only[Option.some.injEq,Prod.mk.injEq]at H
  obtain⟨rfl,rfl⟩:=H
  go_wp2
  go_ret2
  exact⟨_,Z6,Z23,ZB⟩
 replace c11:=Bool.eq_false_iff.mpr c11
 subst c11
 rw[if_neg (show¬(false=true) by decide)]at H
 obtain⟨y_a,hy_a⟩:∃y_:List (S37),y_=(([]:List (S37))):=⟨_,rfl⟩
 replace H:(if y_a.length+l0.length<4398046511104 then(spec_FollowCircles.l0 kj2 (y_a++l0) l1 (l1.length:Int) 0)else(none))=some (r1,r2):=Z8
 have Ny_a:=am hy_a
 clear hy_a
 obtain⟨c12,H⟩:=ip_ H
 have LMc12:=am c12
 clear c12
 obtain⟨y_b,hy_b⟩:∃y_:List (S37),y_=(y_a++l0):=⟨_,rfl⟩
 replace H:(spec_FollowCircles.l0 kj2 y_b l1 (l1.length:Int) 0)=some (r1,r2):=Z14
 have Ny_b:=am hy_b
 clear hy_b
 have H':=am H
 clear H
 go_wp2_with (first|((with_reducible refine gd_ 22 rfl ?_);(try(refine gate_guard (by rfl) ?_;dsimp only));refine Kd.R_lit k37 _ 37 ?hg (N:=22) ?hd (xs:=([]:List (S37))) (inner:=[]) (ok:=fun _=>True) (okp:=fun _=>True) ?hr ?hp (fun _ hk=>hk) trivial (Below.refl _ _) (Nat.le_refl _) (by simp) ?_;(case hd=>rfl);(case hg=>rfl);(case hr=>first|(go_simp;done)|(go_simp;rfl));(case hp=>exact(Reps.none _ _));intro v226 w13 ho14 hb hg_ hnew_;clear hg_ hnew_;(first|rw[←Ny_a.1]at ho14|(simp only[Int.reduceToNat]at ho14;rw[←Ny_a.1]at ho14));have HOoa:=am (Kd.R_lower ho14 zs_);replace HB:=bw_ hb;clear hb ho14)|((with_reducible refine gate_builtin (b:= .append) (xs:=#[.tmp 22,.tmp 23]) rfl ?_);(try(refine gate_guard (by rfl) ?_;dsimp only));at_builtin;refine Kd.R_append_rows k37 (w0:=w) w.heap.size rfl (.tmp 22) (.tmp 23) 24 37 (.agg #[(.int .i64 0),(.int .i64 0),(.int .i64 0),(.int .i64 0)]) 32 rfl Tryz.underlying24 info37 rfl (by decide) (by omega) v226 y_a l0 _ _ _ (fun _=>True) (fun _=>False) rfl rfl ?aO ?aR (fun _ _ h=>h) (fun _ h=>h.elim) ?aF ?aB ?aS ?aL ?_;(case aR=>exact(Z15 HR0));(case aB=>exact ZB);(case aF=>exact(fun _ _=>trivial));(case aO=>exact(Z1 HOoa));(case aS=>exact zs_);(case aL=>have:=LMc12.out;omega);intro v229 w15 ho hb hg hat;rw[←Ny_b.1]at ho;replace HB:=am hb;have HOob:=am ho;clear HOoa;clear ho hb hg hat))
 go_loopg [6,27] kj2 (fun kq v6 v27 w'=>∃(x6_2:List (S37)) (x27_2:Int),v27= .int .i64 x27_2∧Aside0 (spec_FollowCircles.l0 kq x6_2 l1 (l1.length:Int) x27_2=some (r1,r2))∧Aside0 (kq≤kj2)∧Aside0 (Kd.R k37 37 w' w.heap.size (fun _=>True) v6 x6_2)∧Aside0 (Below w.heap.size w w'))
 case atStart=>exact⟨(y_b),(0),Z7,H',⟨Nat.le_refl _⟩,⟨(Z1 HOob)⟩,⟨ZB⟩⟩
 clear H'
 obtain⟨x6_2,x27_2,rfl,HA,HK2,HO_6,HB⟩:=hrel
 obtain _|k2:=gk
 ·
  exact absurd HA.out (by simp[spec_FollowCircles.l0])
 have H:=HA.out
 clear HA
 simp only[spec_FollowCircles.l0]at H
 by_cases c16:x27_2<(l1.length:Int)
 rotate_left
 ·
  rw[if_neg c16]at H
  have c16b0:=decide_eq_false c16
  clear c16
  simp only[Option.some.injEq,Prod.mk.injEq]at H
  obtain⟨rfl,rfl⟩:=H
  go_wp2
  go_ret2
  exact⟨_,Z6,(Z1 HO_6),ZB⟩
 rw[if_pos c16]at H
 have c16b0:=decide_eq_true c16
 clear c16
 obtain⟨c17,H⟩:=ip_ H
 have c17b0:=decide_eq_true c17
 clear c17
 obtain⟨c18,H⟩:=ip_ H
 have c18b0:=decide_eq_true c18
 clear c18
 obtain⟨t232,A19,H⟩:=bs_ H
 try dsimp only at H
 obtain⟨c20,H⟩:=ip_ H
 have c20b0:=decide_eq_true c20
 clear c20
 obtain⟨c21,H⟩:=ip_ H
 have c21b0:=decide_eq_true c21
 clear c21
 obtain⟨t236,A22,H⟩:=bs_ H
 try dsimp only at H
 by_cases c23:t236=true
 ·
  subst c23
  rw[if_pos rfl]at H
  have H':=am H
  clear H
  have p231:0≤(x27_2:Int):=of_decide_eq_true Z5
  have q231:x27_2<(l1.length:Int):=of_decide_eq_true Z5
  obtain⟨ad231,e231,hx231_0⟩:=Kd.at_int HR1.1 x27_2 p231 q231
  cases e231
  replace hx231_0:=(HB.1.cell (World.block_lt_of_cell? w _ hx231_0)).trans hx231_0
  replace p231:=eq_true p231
  replace q231:=eq_true q231
  obtain⟨Ao24,co24,eo24⟩:=Kd.R_slice HO_6.1
  subst eo24
  go_wp2_with (first|((with_reducible refine gc_ 46 rfl ?_);refine gE_ (some 33) Tryz.func46 (spec_ciSwap.calls k2 _ _ x6_2 (rd l1 x27_2) t232 _ ?side1 ?side2 A19.1) ?_;(case side1=>exact(Z10 HO_6));(case side2=>exact(Kd.R_reads' HO_6.1).2.1);rintro v233 w25 ⟨ho0,hb⟩;have HOoc:=am (Kd.R_lower (Kd.R_new' ho0 (Kd.R_lt (Z1 HO_6))) zs_);replace HO_6:=am (Kd.R_elder' (Z1 HO_6) (Kd.R_base ho0) hb);replace HB:=bw_ hb;clear hb;(try clear ho0);obtain⟨Ao26,co26,eo26⟩:=Kd.R_slice HOoc.1;subst eo26;have p235:0≤((rd l1 x27_2):Int):=of_decide_eq_true Z5;have q235:(rd l1 x27_2)<(t232.length:Int):=of_decide_eq_true Z5;obtain⟨ad235,e235,hx235_0,hx235_1,hx235_2,hx235_3⟩:=at_T37 (Kd.R_reads' HOoc.1).2.2 (rd l1 x27_2) p235 q235;cases e235;replace p235:=eq_true p235;replace q235:=eq_true q235)|((with_reducible refine gc_ 47 rfl ?_);refine gM_ (some 38) Tryz.func47 (spec_ciGood.calls k2 ((rd_T37 t232 (rd l1 x27_2)).f0) ((rd_T37 t232 (rd l1 x27_2)).f1) ((rd_T37 t232 (rd l1 x27_2)).f2) ((rd_T37 t232 (rd l1 x27_2)).f3) true _ A22.1) ?_;intro w27 hb;replace HO_6:=am (Kd.R_below (Z1 HO_6) hb);replace HOoc:=am (Kd.R_below (Z1 HOoc) hb);replace HB:=bw_ hb;clear hb))
  go_roundg k2
  case measure=>have:=HJ2.1;have:=HK2.1;omega
  exact⟨(t232),(wrap64 (x27_2+1)),Z7,H',⟨(by have:=HJ2.1;have:=HK2.1;omega)⟩,⟨(Z20 HOoc)⟩,⟨ZB⟩⟩
 replace c23:=Bool.eq_false_iff.mpr c23
 subst c23
 rw[if_neg (show¬(false=true) by decide)]at H
 simp only[Option.some.injEq,Prod.mk.injEq]at H
 obtain⟨rfl,rfl⟩:=H
 have p231:0≤(x27_2:Int):=of_decide_eq_true Z5
 have q231:x27_2<(l1.length:Int):=of_decide_eq_true Z5
 obtain⟨ad231,e231,hx231_0⟩:=Kd.at_int HR1.1 x27_2 p231 q231
 cases e231
 replace hx231_0:=(HB.1.cell (World.block_lt_of_cell? w _ hx231_0)).trans hx231_0
 replace p231:=eq_true p231
 replace q231:=eq_true q231
 obtain⟨Ao28,co28,eo28⟩:=Kd.R_slice HO_6.1
 subst eo28
 go_wp2_with (first|((with_reducible refine gc_ 46 rfl ?_);refine gE_ (some 33) Tryz.func46 (spec_ciSwap.calls k2 _ _ x6_2 (rd l1 x27_2) t232 _ ?side1 ?side2 A19.1) ?_;(case side1=>exact(Z10 HO_6));(case side2=>exact(Kd.R_reads' HO_6.1).2.1);rintro v233 w29 ⟨ho0,hb⟩;have HOoc:=am (Kd.R_lower (Kd.R_new' ho0 (Kd.R_lt (Z1 HO_6))) zs_);replace HO_6:=am (Kd.R_elder' (Z1 HO_6) (Kd.R_base ho0) hb);replace HB:=bw_ hb;clear hb;(try clear ho0);obtain⟨Ao30,co30,eo30⟩:=Kd.R_slice HOoc.1;subst eo30;have p235:0≤((rd l1 x27_2):Int):=of_decide_eq_true Z5;have q235:(rd l1 x27_2)<(t232.length:Int):=of_decide_eq_true Z5;obtain⟨ad235,e235,hx235_0,hx235_1,hx235_2,hx235_3⟩:=at_T37 (Kd.R_reads' HOoc.1).2.2 (rd l1 x27_2) p235 q235;cases e235;replace p235:=eq_true p235;replace q235:=eq_true q235)|((with_reducible refine gc_ 47 rfl ?_);refine gM_ (some 38) Tryz.func47 (spec_ciGood.calls k2 ((rd_T37 t232 (rd l1 x27_2)).f0) ((rd_T37 t232 (rd l1 x27_2)).f1) ((rd_T37 t232 (rd l1 x27_2)).f2) ((rd_T37 t232 (rd l1 x27_2)).f3) false _ A22.1) ?_;intro w31 hb;replace HO_6:=am (Kd.R_below (Z1 HO_6) hb);replace HOoc:=am (Kd.R_below (Z1 HOoc) hb);replace HB:=bw_ hb;clear hb))
 go_ret2
 exact⟨_,Z6,Z23,ZB⟩
def spec_DrawCirclesUpTo.j0:Nat→List (S37)→List Int→Int→Int→Option ((List (S37))× Int)
  |0,_,_,_,_=>none
  |k+1,x5,x238000,x238001,x238002=>(spec_l1Cur_one.f x238000 x238001 x238002 4).bind fun bt250=>(if bt250.1=true then((spec_FollowCircles.f k x5 (([3,2,3]:List Int))).bind fun bt256=>((spec_l1Cur_among.f x238000 bt250.2.1 bt250.2.2 (([1,2,3,15,30,60,61,0]:List Int))).bind fun bt263=>(some (bt256.1,bt263.1))))else((spec_l1Cur_among.f x238000 bt250.2.1 bt250.2.2 (([1,2,3,15,30,60,61,0]:List Int))).bind fun bt269=>(some (x5,bt269.1))))
def spec_DrawCirclesUpTo.f (k:Nat) (l0:List Int):Option ((List (S37))× Int):=(spec_StartConfig.f 0).bind fun bt238=>((spec_l1Cur_one.f l0 0 0 3).bind fun bt242=>(if bt242.1=true then((spec_l1Cur_config.f k l0 bt242.2.1 bt242.2.2).bind fun bt245=>(spec_DrawCirclesUpTo.j0 k bt245.1 l0 bt245.2.1 bt245.2.2))else(spec_DrawCirclesUpTo.j0 k bt238.1 l0 bt242.2.1 bt242.2.2)))
theorem spec_DrawCirclesUpTo.mono_l:∀k,(∀y0 y1 y2 y3,LeO (spec_DrawCirclesUpTo.j0 k y0 y1 y2 y3) (spec_DrawCirclesUpTo.j0 (k+1) y0 y1 y2 y3))
  |0=>fun _ _ _ _ r h=>by simp[spec_DrawCirclesUpTo.j0]at h
  |k+1=>by
    have ih0:=spec_DrawCirclesUpTo.mono_l k
    · intro y0 y1 y2 y3
      unfold spec_DrawCirclesUpTo.j0
      exact mo_
theorem spec_DrawCirclesUpTo.mono:∀a0 k,LeO (spec_DrawCirclesUpTo.f k a0) (spec_DrawCirclesUpTo.f (k+1) a0):=by
  intro a0 k
  have ih0:=spec_DrawCirclesUpTo.mono_l k
  unfold spec_DrawCirclesUpTo.f
  exact mo_
set_option maxHeartbeats 8000000 in
set_option maxRecDepth 100000 in
theorem spec_DrawCirclesUpTo.calls (k:Nat) (A0:Option Addr) (c0:Nat) (l0:List Int) (r1:List (S37)) (r2:Int) (w:World) (hr0:Kd.C (Kd.int .u8) w A0 l0.length l0) (hc0:l0.length≤c0) (h:spec_DrawCirclesUpTo.f k l0=some (r1,r2)):
  Calls Tryz.prog 5 #[.slice A0 l0.length c0] w fun e w'=>∃v0_:Value,e= .returned (.tuple #[v0_,.int .i64 r2])∧Kd.R k37 37 w' w.heap.size (fun _=>True) v0_ r1∧Below w.heap.size w w':=by
 have hu58:=Tryz.underlying58
 have HR0:=am hr0
 have HC0:=am hc0
 clear hr0 hc0
 have HB:=am (Below.refl w.heap.size w)
 have H:=h
 clear h
 unfold spec_DrawCirclesUpTo.f at H
 obtain⟨⟨t238,t239⟩,A2,H⟩:=bs_ H
 try dsimp only at H
 obtain⟨⟨t242,t243,t244⟩,A3,H⟩:=bs_ H
 try dsimp only at H
 have HC4:=am H
 clear H
 go_enter Tryz.func5,Tryz.ntmps5
 go_upto_if 15 with(first|((with_reducible refine gd_ 9 rfl ?_);refine boxN_ 9 #[.slice A0 l0.length c0,.int .i64 0,.int .u64 0] 58 ?_;intro gboa hg w5 hbox hb;have HIoa:=am ((show IsS58 w _ gboa l0 0 0 from⟨_,_,hbox,(by rw[hg];exact zs_:w.heap.size≤gboa),HR0.1⟩));replace HB:=bw_ hb;clear hb hbox hg)|((with_reducible refine gc_ 27 rfl ?_);refine gE_ (some 11) Tryz.func27 (spec_StartConfig.calls 0 t238 t239 _ A2.1) ?_;rintro v240 w6 ⟨ho0,hb⟩;have HOob:=am (Kd.R_lower ho0 zs_);replace HB:=bw_ hb;replace HIoa:=am (IsS58.below (Z2 HIoa) hb);clear hb;(try clear ho0))|((with_reducible refine gc_ 28 rfl ?_);refine gM_ (some 15) Tryz.func28 (spec_l1Cur_one.calls gboa l0 0 0 3 t242 t243 t244 w _ ?side1 ?side2 A3.1) ?_;(case side1=>exact(Z2 HIoa));(case side2=>exact ZB);rintro w7 ⟨hi,hb,hk⟩;replace HOob:=am (Kd.R_mono (Kd.R_keep (IsS58.apart (show IsS58 w _ gboa l0 0 0 from(Z2 HIoa)) (Z1 HOob) (by decide)) hk (fun _ h=>h.2)) (fun _ h=>h.1));replace HB:=am hb;replace HIoa:=am hi;clear hb hk hi))
 (try simp only[Act.put,List.setIfInBounds_toArray,List.set_cons_zero,List.set_cons_succ])
 go_cut[5] (fun v5 wc=>∃(kq:Nat) (x5_3:List (S37)) (x238001_3:Int) (x238002_3:Int),Aside0 (spec_DrawCirclesUpTo.j0 kq x5_3 l0 x238001_3 x238002_3=some (r1,r2))∧Aside0 (kq≤k)∧Aside0 (Kd.R k37 37 wc w.heap.size (fun _=>True) v5 x5_3)∧Aside0 (IsS58 w wc gboa l0 x238001_3 x238002_3)∧Aside0 (Below w.heap.size w wc))
 case first=>
  have H:=HC4.1
  clear HC4
  by_cases c8:t242=true
  rotate_left
  ·
   replace c8:=Bool.eq_false_iff.mpr c8
   subst c8
   rw[if_neg (show¬(false=true) by decide)]at H
   have H':=am H
   clear H
   go_wp2
   go_meet
   exact⟨_,(t238),(t243),(t244),H',⟨Z35⟩,⟨(Z1 HOob)⟩,⟨(Z2 HIoa)⟩,⟨ZB⟩⟩
  subst c8
  rw[if_pos rfl]at H
  obtain⟨⟨t245,t248,t249⟩,A9,H⟩:=bs_ H
  try dsimp only at H
  have H':=am H
  clear H
  go_wp2_with (first|((with_reducible refine gc_ 29 rfl ?_);refine gE_ (some 17) Tryz.func29 (spec_l1Cur_config.calls k gboa l0 t243 t244 t245 t248 t249 w _ ?side1 ?side2 A9.1) ?_;(case side1=>exact(Z2 HIoa));(case side2=>exact ZB);rintro v246 w10 ⟨ho0,hi,hb,hk⟩;have HOoc:=am (Kd.R_lower (Kd.R_new' ho0 (Kd.R_lt (Z1 HOob))) zs_);replace HOob:=am (Kd.R_mono (Kd.R_told (Kd.R_oldK (IsS58.apart (show IsS58 w _ gboa l0 t243 t244 from(Z2 HIoa)) (Z1 HOob) (by decide)) hk) (Kd.R_base ho0)) (fun _ h_=>h_.1));replace HB:=am hb;replace HIoa:=am hi;clear hb hk hi;(try clear ho0)))
  go_meet
  exact⟨_,(t245),(t248),(t249),H',⟨Z35⟩,⟨(Z20 HOoc)⟩,⟨(Z2 HIoa)⟩,⟨ZB⟩⟩
 clear HC4
 obtain⟨kq,x5_3,x238001_3,x238002_3,HA,HJ3,HO_5,HIoa,HB⟩:=hcut
 obtain _|kj3:=kq
 ·
  exact absurd HA.out (by simp[spec_DrawCirclesUpTo.j0])
 have H:=HA.out
 clear HA
 simp only[spec_DrawCirclesUpTo.j0]at H
 obtain⟨⟨t250,t251,t252⟩,A11,H⟩:=bs_ H
 try dsimp only at H
 by_cases c12:t250=true
 rotate_left
 ·
  replace c12:=Bool.eq_false_iff.mpr c12
  subst c12
  rw[if_neg (show¬(false=true) by decide)]at H
  obtain⟨y_a,hy_a⟩:∃y_:List Int,y_=(([1,2,3,15,30,60,61,0]:List Int)):=⟨_,rfl⟩
  replace H:((spec_l1Cur_among.f l0 t251 t252 y_a).bind fun bt269=>(some (x5_3,bt269.1)))=some (r1,r2):=Z8
  have Ny_a:=am hy_a
  clear hy_a
  obtain⟨⟨t269,t270,t271⟩,A25,H⟩:=bs_ H
  try dsimp only at H
  simp only[Option.some.injEq,Prod.mk.injEq]at H
  obtain⟨rfl,rfl⟩:=H
  go_wp2_with (first|((with_reducible refine gc_ 28 rfl ?_);refine gM_ (some 19) Tryz.func28 (spec_l1Cur_one.calls gboa l0 x238001_3 x238002_3 4 false t251 t252 w _ ?side1 ?side2 A11.1) ?_;(case side1=>exact(Z2 HIoa));(case side2=>exact ZB);rintro w26 ⟨hi,hb,hk⟩;replace HO_5:=am (Kd.R_mono (Kd.R_keep (IsS58.apart (show IsS58 w _ gboa l0 x238001_3 x238002_3 from(Z2 HIoa)) (Z1 HO_5) (by decide)) hk (fun _ h=>h.2)) (fun _ h=>h.1));replace HB:=am hb;replace HIoa:=am hi;clear hb hk hi)|((with_reducible refine gd_ 28 rfl ?_);refine Kd.R_lit (Kd.int .i64) _ 3 ?hg (N:=28) ?hd (xs:=([1,2,3,15,30,60,61,0]:List Int)) (inner:=[.int .i64 1,.int .i64 2,.int .i64 3,.int .i64 15,.int .i64 30,.int .i64 60,.int .i64 61,.int .i64 0]) (ok:=fun _=>True) (okp:=fun _=>True) ?hr ?hp (fun _ hk=>hk) trivial (Below.refl _ _) (Nat.le_refl _) (by simp) ?_;(case hd=>rfl);(case hg=>rfl);(case hr=>first|(go_simp;done)|(go_simp;rfl));(case hp=>exact(Reps.one (show Kd.M (Kd.int .i64) _ _ _ 1 [.int .i64 1]from rfl) (Reps.one (show Kd.M (Kd.int .i64) _ _ _ 2 [.int .i64 2]from rfl) (Reps.one (show Kd.M (Kd.int .i64) _ _ _ 3 [.int .i64 3]from rfl) (Reps.one (show Kd.M (Kd.int .i64) _ _ _ 15 [.int .i64 15]from rfl) (Reps.one (show Kd.M (Kd.int .i64) _ _ _ 30 [.int .i64 30]from rfl) (Reps.one (show Kd.M (Kd.int .i64) _ _ _ 60 [.int .i64 60]from rfl) (Reps.one (show Kd.M (Kd.int .i64) _ _ _ 61 [.int .i64 61]from rfl) (Reps.one (show Kd.M (Kd.int .i64) _ _ _ 0 [.int .i64 0]from rfl) (Reps.none _ _))))))))));intro v267 w27 ho28 hb hg_ hnew_;clear hg_ hnew_;(first|rw[←Ny_a.1]at ho28|(simp only[Int.reduceToNat]at ho28;rw[←Ny_a.1]at ho28));replace HO_5:=am (Kd.R_below (Z1 HO_5) hb);have HOod:=am (Kd.R_lower ho28 zs_);replace HB:=bw_ hb;replace HIoa:=am (IsS58.below (Z2 HIoa) hb);clear hb ho28;obtain⟨Ao29,co29,eo29⟩:=Kd.R_slice HOod.1;subst eo29)|((with_reducible refine gc_ 31 rfl ?_);refine gM_ (some 29) Tryz.func31 (spec_l1Cur_among.calls gboa l0 t251 t252 _ _ y_a t269 t270 t271 w _ ?side1 ?side2 ?side3 ?side4 ?side5 A25.1) ?_;(case side1=>exact(Z2 HIoa));(case side2=>exact ZB);(case side3=>exact(Z10 HOod));(case side4=>exact(Kd.R_reads' HOod.1).2.1);(case side5=>exact far_slice (IsS58.own_ne HIoa.1 HOod.1 (by decide)));rintro w30 ⟨hi,hb,hk⟩;replace HO_5:=am (Kd.R_mono (Kd.R_keep (IsS58.apart (show IsS58 w _ gboa l0 t251 t252 from(Z2 HIoa)) (Z1 HO_5) (by decide)) hk (fun _ h=>h.2)) (fun _ h=>h.1));replace HOod:=am (Kd.R_mono (Kd.R_keep (IsS58.apart (show IsS58 w _ gboa l0 t251 t252 from(Z2 HIoa)) (Z1 HOod) (by decide)) hk (fun _ h=>h.2)) (fun _ h=>h.1));replace HB:=am hb;replace HIoa:=am hi;clear hb hk hi))
  go_ret2
  exact⟨_,Z6,(Z1 HO_5),ZB⟩
 subst c12
 rw[if_pos rfl]at H
 obtain⟨y_b,hy_b⟩:∃y_:List Int,y_=(([3,2,3]:List Int)):=⟨_,rfl⟩
 replace H:((spec_FollowCircles.f kj3 x5_3 y_b).bind fun bt256=>((spec_l1Cur_among.f l0 t251 t252 (([1,2,3,15,30,60,61,0]:List Int))).bind fun bt263=>(some (bt256.1,bt263.1))))=some (r1,r2):=Z14
 have Ny_b:=am hy_b
 clear hy_b
 obtain⟨⟨t256,t257⟩,A13,H⟩:=bs_ H
 try dsimp only at H
 obtain⟨y_c,hy_c⟩:∃y_:List Int,y_=(([1,2,3,15,30,60,61,0]:List Int)):=⟨_,rfl⟩
 replace H:((spec_l1Cur_among.f l0 t251 t252 y_c).bind fun bt263=>(some (t256,bt263.1)))=some (r1,r2):=Z24
 have Ny_c:=am hy_c
 clear hy_c
 obtain⟨⟨t263,t264,t265⟩,A14,H⟩:=bs_ H
 try dsimp only at H
 simp only[Option.some.injEq,Prod.mk.injEq]at H
 obtain⟨rfl,rfl⟩:=H
 go_wp2_with (first|((with_reducible refine gc_ 28 rfl ?_);refine gM_ (some 19) Tryz.func28 (spec_l1Cur_one.calls gboa l0 x238001_3 x238002_3 4 true t251 t252 w _ ?side1 ?side2 A11.1) ?_;(case side1=>exact(Z2 HIoa));(case side2=>exact ZB);rintro w15 ⟨hi,hb,hk⟩;replace HO_5:=am (Kd.R_mono (Kd.R_keep (IsS58.apart (show IsS58 w _ gboa l0 x238001_3 x238002_3 from(Z2 HIoa)) (Z1 HO_5) (by decide)) hk (fun _ h=>h.2)) (fun _ h=>h.1));replace HB:=am hb;replace HIoa:=am hi;clear hb hk hi)|((with_reducible refine gd_ 22 rfl ?_);refine Kd.R_lit (Kd.int .i64) _ 3 ?hg (N:=22) ?hd (xs:=([3,2,3]:List Int)) (inner:=[.int .i64 3,.int .i64 2,.int .i64 3]) (ok:=fun _=>True) (okp:=fun _=>True) ?hr ?hp (fun _ hk=>hk) trivial (Below.refl _ _) (Nat.le_refl _) (by simp) ?_;(case hd=>rfl);(case hg=>rfl);(case hr=>first|(go_simp;done)|(go_simp;rfl));(case hp=>exact(Reps.one (show Kd.M (Kd.int .i64) _ _ _ 3 [.int .i64 3]from rfl) (Reps.one (show Kd.M (Kd.int .i64) _ _ _ 2 [.int .i64 2]from rfl) (Reps.one (show Kd.M (Kd.int .i64) _ _ _ 3 [.int .i64 3]from rfl) (Reps.none _ _)))));intro v254 w16 ho17 hb hg_ hnew_;clear hg_ hnew_;(first|rw[←Ny_b.1]at ho17|(simp only[Int.reduceToNat]at ho17;rw[←Ny_b.1]at ho17));replace HO_5:=am (Kd.R_below (Z1 HO_5) hb);have HOoe:=am (Kd.R_lower ho17 zs_);replace HB:=bw_ hb;replace HIoa:=am (IsS58.below (Z2 HIoa) hb);clear hb ho17;obtain⟨Ao18,co18,eo18⟩:=Kd.R_slice HO_5.1;subst eo18;obtain⟨Ao19,co19,eo19⟩:=Kd.R_slice HOoe.1;subst eo19)|((with_reducible refine gc_ 30 rfl ?_);refine gE_ (some 23) Tryz.func30 (spec_FollowCircles.calls kj3 _ _ x5_3 _ _ y_b t256 t257 _ ?side1 ?side2 ?side3 ?side4 A13.1) ?_;(case side1=>exact(Z10 HO_5));(case side2=>exact(Kd.R_reads' HO_5.1).2.1);(case side3=>exact(Z10 HOoe));(case side4=>exact(Kd.R_reads' HOoe.1).2.1);rintro v258 w20 ⟨ho0,hb⟩;replace HOoe:=am (Kd.R_below (Z1 HOoe) hb);have HOof:=am (Kd.R_lower (Kd.R_new' ho0 (Kd.R_lt (Z1 HO_5))) zs_);replace HO_5:=am (Kd.R_elder' (Z1 HO_5) (Kd.R_base ho0) hb);replace HB:=bw_ hb;replace HIoa:=am (IsS58.below (Z2 HIoa) hb);clear hb;(try clear ho0))|((with_reducible refine gd_ 28 rfl ?_);refine Kd.R_lit (Kd.int .i64) _ 3 ?hg (N:=28) ?hd (xs:=([1,2,3,15,30,60,61,0]:List Int)) (inner:=[.int .i64 1,.int .i64 2,.int .i64 3,.int .i64 15,.int .i64 30,.int .i64 60,.int .i64 61,.int .i64 0]) (ok:=fun _=>True) (okp:=fun _=>True) ?hr ?hp (fun _ hk=>hk) trivial (Below.refl _ _) (Nat.le_refl _) (by simp) ?_;(case hd=>rfl);(case hg=>rfl);(case hr=>first|(go_simp;done)|(go_simp;rfl));(case hp=>exact(Reps.one (show Kd.M (Kd.int .i64) _ _ _ 1 [.int .i64 1]from rfl) (Reps.one (show Kd.M (Kd.int .i64) _ _ _ 2 [.int .i64 2]from rfl) (Reps.one (show Kd.M (Kd.int .i64) _ _ _ 3 [.int .i64 3]from rfl) (Reps.one (show Kd.M (Kd.int .i64) _ _ _ 15 [.int .i64 15]from rfl) (Reps.one (show Kd.M (Kd.int .i64) _ _ _ 30 [.int .i64 30]from rfl) (Reps.one (show Kd.M (Kd.int .i64) _ _ _ 60 [.int .i64 60]from rfl) (Reps.one (show Kd.M (Kd.int .i64) _ _ _ 61 [.int .i64 61]from rfl) (Reps.one (show Kd.M (Kd.int .i64) _ _ _ 0 [.int .i64 0]from rfl) (Reps.none _ _))))))))));intro v261 w21 ho22 hb hg_ hnew_;clear hg_ hnew_;(first|rw[←Ny_c.1]at ho22|(simp only[Int.reduceToNat]at ho22;rw[←Ny_c.1]at ho22));replace HO_5:=am (Kd.R_below (Z1 HO_5) hb);replace HOof:=am (Kd.R_below (Z1 HOof) hb);have HOog:=am (Kd.R_lower (Kd.R_new' ho22 (Kd.R_lt (Z1 HOoe))) zs_);replace HOoe:=am (Kd.R_elder' (Z1 HOoe) (Kd.R_base ho22) hb);replace HB:=bw_ hb;replace HIoa:=am (IsS58.below (Z2 HIoa) hb);clear hb ho22;obtain⟨Ao23,co23,eo23⟩:=Kd.R_slice HOog.1;subst eo23)|((with_reducible refine gc_ 31 rfl ?_);refine gM_ (some 29) Tryz.func31 (spec_l1Cur_among.calls gboa l0 t251 t252 _ _ y_c t263 t264 t265 w _ ?side1 ?side2 ?side3 ?side4 ?side5 A14.1) ?_;(case side1=>exact(Z2 HIoa));(case side2=>exact ZB);(case side3=>exact(Z10 HOog));(case side4=>exact(Kd.R_reads' HOog.1).2.1);(case side5=>exact far_slice (IsS58.own_ne HIoa.1 HOog.1 (by decide)));rintro w24 ⟨hi,hb,hk⟩;replace HO_5:=am (Kd.R_mono (Kd.R_keep (IsS58.apart (show IsS58 w _ gboa l0 t251 t252 from(Z2 HIoa)) (Z1 HO_5) (by decide)) hk (fun _ h=>h.2)) (fun _ h=>h.1));replace HOoe:=am (Kd.R_mono (Kd.R_keep (IsS58.apart (show IsS58 w _ gboa l0 t251 t252 from(Z2 HIoa)) (Z1 HOoe) (by decide)) hk (fun _ h=>h.2)) (fun _ h=>h.1));replace HOof:=am (Kd.R_mono (Kd.R_keep (IsS58.apart (show IsS58 w _ gboa l0 t251 t252 from(Z2 HIoa)) (Z1 HOof) (by decide)) hk (fun _ h=>h.2)) (fun _ h=>h.1));replace HOog:=am (Kd.R_mono (Kd.R_keep (IsS58.apart (show IsS58 w _ gboa l0 t251 t252 from(Z2 HIoa)) (Z1 HOog) (by decide)) hk (fun _ h=>h.2)) (fun _ h=>h.1));replace HB:=am hb;replace HIoa:=am hi;clear hb hk hi))
 go_ret2
 exact⟨_,Z6,(Z20 HOof),ZB⟩
end Go.Proofs.YtmpofeilljmmiaaGreatDoor.P
