import Derived.Test.YtmpofeilljmmiaaGreatDoorP0
import Derived.Test.YtmpofeilljmmiaaGreatDoorP7
import Derived.Test.YtmpofeilljmmiaaGreatDoorP18
import Derived.Test.YtmpofeilljmmiaaGreatDoorP22
import Derived.Test.YtmpofeilljmmiaaGreatDoorP27
import Derived.Test.YtmpofeilljmmiaaGreatDoorP34
import Derived.Test.YtmpofeilljmmiaaGreatDoorP39
import Derived.Laws.BitsAllLaws
import Derived.Lib.AtoiAllCases
import Derived.Lib.IndexBytes
namespace Go.Proofs.YtmpofeilljmmiaaGreatDoor.P
open Go.RowKit Go.Proofs.YtmpofeilljmmiaaGreatDoorW.PrintWords Go.Proofs.YtmpofeilljmmiaaGreatDoorW.PrintLast Go.Proofs.YtmpofeilljmmiaaGreatDoorW.PrintMore
theorem om {P:Prop} (h:P:=by omega):P:=h
theorem sm {P:Prop} (h:P:=by simp):P:=h
theorem wrap_id {x:Int} (h0: -9223372036854775808≤x) (h1:x≤9223372036854775807):wrap64 x=x:=by unfold wrap64;omega
theorem rdi_at {l:List Int} {i:Nat} (h:i<l.length):rd l (i:Int)=l[i]:=by simp[rd,List.getD_eq_getElem?_getD,List.getElem?_eq_getElem h]
theorem l1In_f (x lo hi:Int):spec_l1In.f x lo hi=some (inB lo hi x):=by
 unfold spec_l1In.f inB
 by_cases h:x≥lo
 ·rw[if_pos h];simp[show lo≤x from h]
 ·rw[if_neg h];simp[show¬lo≤x from h]
theorem inB_iff {lo hi x:Int}:inB lo hi x=true↔lo≤x∧x≤hi:=by simp[inB]
theorem inB_of {lo hi x:Int} (h:lo≤x∧x≤hi):inB lo hi x=true:=inB_iff.2 h
theorem Ev.all {α:Type} {f:Option α} {r:α} (h:f=some r):Ev (fun _=>f) r:=⟨0,fun _ _=>h⟩
theorem Ev.from {α:Type} {g:Nat→Option α} {r:α} (K:Nat) (h:∀k,K<k→g k=some r):Ev g r:=⟨K+1,fun k hk=>h k om⟩
theorem l1All_l (lo hi:Int) (l:List Int) (hl:(l.length:Int)≤9223372036854775806) (d:Nat):∀(i k:Nat),i+d=l.length→d<k→spec_l1All.l0 k lo hi l (l.length:Int) (i:Int)=some ((l.drop i).all (inB lo hi)):=by
 induction d with
 |zero=>
  intro i k hi' hk
  obtain⟨k,rfl⟩:∃m,k=m+1:=⟨k-1,om⟩
  simp only[spec_l1All.l0]
  rw[if_neg om,List.drop_of_length_le om]
  rfl
 |succ d ih=>
  intro i k hi' hk
  obtain⟨k,rfl⟩:∃m,k=m+1:=⟨k-1,om⟩
  have hil:i<l.length:=om
  simp only[spec_l1All.l0]
  rw[if_pos om,if_pos om,if_pos om,l1In_f,rdi_at hil,wrap_id om om]
  simp only[Option.bind_some]
  rw[List.drop_eq_getElem_cons hil,List.all_cons]
  cases inB lo hi l[i]with
  |false=>simp
  |true=>
   simp only[if_true,Bool.true_and]
   exact ih (i+1) k om om
theorem l1All_ev (lo hi:Int) (l:List Int) (hl:(l.length:Int)≤9223372036854775806):Ev (fun k=>spec_l1All.f k l lo hi) (l.all (inB lo hi)):=
 Ev.from l.length (fun k hk=>by
  have:=l1All_l lo hi l hl l.length 0 k om hk
  simpa[spec_l1All.f]using this)
def bnd (x:Int):Prop:= -1000000≤x∧x≤1000000
theorem sqb {a b A B:Int} (h0: -A≤a) (h1:a≤A) (h2: -B≤b) (h3:b≤B): -(A*B)≤a*b∧a*b≤A*B:=by
 have p1:=Int.mul_nonneg (show 0≤A-a by omega) (show 0≤B+b by omega)
 have p2:=Int.mul_nonneg (show 0≤A+a by omega) (show 0≤B-b by omega)
 have p3:=Int.mul_nonneg (show 0≤A-a by omega) (show 0≤B-b by omega)
 have p4:=Int.mul_nonneg (show 0≤A+a by omega) (show 0≤B+b by omega)
 constructor<;>grind
theorem isC_iff (x:S37):isC x=true↔(bnd x.f0∧bnd x.f1∧bnd x.f2∧bnd x.f3)∧x.f2*x.f2+x.f3*x.f3-x.f0*x.f1=1:=by
 unfold isC bnd
 simp only[List.all_cons,List.all_nil,Bool.and_true,Bool.and_eq_true,inB_iff,beq_iff_eq]
 constructor
 ·rintro⟨⟨h0,h1,h2,h3⟩,h⟩
  have a:=sqb (A:=1000000) (B:=1000000) om h0.2 om h1.2
  have b:=sqb (A:=1000000) (B:=1000000) om h2.2 om h2.2
  have c:=sqb (A:=1000000) (B:=1000000) om h3.2 om h3.2
  rw[wrap_id (x:=x.f2*x.f2) om om,wrap_id (x:=x.f3*x.f3) om om,wrap_id (x:=x.f0*x.f1) om om,wrap_id (x:=x.f2*x.f2+x.f3*x.f3) om om,wrap_id om om]at h
  exact⟨⟨h0,h1,h2,h3⟩,h⟩
 ·rintro⟨⟨h0,h1,h2,h3⟩,h⟩
  have a:=sqb (A:=1000000) (B:=1000000) om h0.2 om h1.2
  have b:=sqb (A:=1000000) (B:=1000000) om h2.2 om h2.2
  have c:=sqb (A:=1000000) (B:=1000000) om h3.2 om h3.2
  rw[wrap_id (x:=x.f2*x.f2) om om,wrap_id (x:=x.f3*x.f3) om om,wrap_id (x:=x.f0*x.f1) om om,wrap_id (x:=x.f2*x.f2+x.f3*x.f3) om om,wrap_id (x:=x.f2*x.f2+x.f3*x.f3-x.f0*x.f1) om om]
  exact⟨⟨h0,h1,h2,h3⟩,h⟩
theorem ciGood_ev (a b c d:Int):Ev (fun k=>spec_ciGood.f k a b c d) (isC ⟨a,b,c,d⟩):=by
 have h:=l1All_ev (-1000000) 1000000 [a,b,c,d] sm
 unfold spec_ciGood.f
 refine Ev.bind h ?_
 unfold isC
 cases([a,b,c,d]:List Int).all (inB (-1000000) 1000000)with
 |true=>simp only[if_true];exact Ev.now _
 |false=>simp only[Bool.false_eq_true,if_false];exact Ev.now _
/-- bounds alone:what 'drawn' asks. -/
def inC (x:S37):Bool:=([x.f0,x.f1,x.f2,x.f3]:List Int).all (inB (-1000000) 1000000)
theorem inC_iff (x:S37):inC x=true↔bnd x.f0∧bnd x.f1∧bnd x.f2∧bnd x.f3:=by
 unfold inC bnd
 simp only[List.all_cons,List.all_nil,Bool.and_true,Bool.and_eq_true,inB_iff]
theorem ciIf_ev (a b c d:Int):Ev (fun k=>spec_ciIf.f k a b c d) (if isC ⟨a,b,c,d⟩=true then(a,b,c,d,true)else(0,0,0,0,false)):=by
 unfold spec_ciIf.f
 refine Ev.bind (ciGood_ev a b c d) ?_
 cases isC ⟨a,b,c,d⟩with
 |true=>simp only[if_true];exact Ev.now _
 |false=>simp only[Bool.false_eq_true,if_false];exact Ev.now _
def twi (x y:S37):Int:=2*x.f2*y.f2+2*x.f3*y.f3-x.f0*y.f1-x.f1*y.f0
theorem twi_b {x y:S37} (hx:bnd x.f0∧bnd x.f1∧bnd x.f2∧bnd x.f3) (hy:bnd y.f0∧bnd y.f1∧bnd y.f2∧bnd y.f3): -6000000000000≤twi x y∧twi x y≤6000000000000∧impl_twice.f x.f0 x.f1 x.f2 x.f3 y.f0 y.f1 y.f2 y.f3=some (twi x y):=by
 unfold bnd at hx hy
 have a:=sqb (a:=2*x.f2) (b:=y.f2) (A:=2000000) (B:=1000000) om om om om
 have b:=sqb (a:=2*x.f3) (b:=y.f3) (A:=2000000) (B:=1000000) om om om om
 have c:=sqb (a:=x.f0) (b:=y.f1) (A:=1000000) (B:=1000000) om om om om
 have d:=sqb (a:=x.f1) (b:=y.f0) (A:=1000000) (B:=1000000) om om om om
 refine⟨by unfold twi;omega,by unfold twi;omega,?_⟩
 unfold impl_twice.f twi
 rw[wrap_id (x:=2*x.f2) om om,wrap_id (x:=2*x.f3) om om,wrap_id (x:=2*x.f2*y.f2) om om,wrap_id (x:=2*x.f3*y.f3) om om,wrap_id (x:=x.f0*y.f1) om om,wrap_id (x:=x.f1*y.f0) om om,wrap_id (x:=2*x.f2*y.f2+2*x.f3*y.f3) om om,wrap_id (x:=2*x.f2*y.f2+2*x.f3*y.f3-x.f0*y.f1) om om,wrap_id (x:=2*x.f2*y.f2+2*x.f3*y.f3-x.f0*y.f1-x.f1*y.f0) om om]
theorem ciTwice_f (a b c d e f g h:Int):spec_ciTwice.f a b c d e f g h=impl_twice.f a b c d e f g h:=rfl
theorem rdC_at {l:List S37} {i:Nat} (h:i<l.length):rd_T37 l (i:Int)=l[i]:=by simp[rd_T37,List.getD_eq_getElem?_getD,List.getElem?_eq_getElem h]
def bndC (x:S37):Prop:=bnd x.f0∧bnd x.f1∧bnd x.f2∧bnd x.f3
theorem twi_comm (x y:S37):twi x y=twi y x:=by unfold twi;grind
theorem twice_f {x y:S37} (hx:bndC x) (hy:bndC y):impl_twice.f x.f0 x.f1 x.f2 x.f3 y.f0 y.f1 y.f2 y.f3=some (twi x y):=(twi_b hx hy).2.2
theorem isC_bnd {x:S37} (h:isC x=true):bndC x:=((isC_iff x).1 h).1
def tl (c:S37):List S37→Nat→Nat→List (List Int)
 |[],_,_=>[]
 |d::ds,i,j=>(if twi c d= -2 then[[(i:Int),(j:Int)]]else[])++tl c ds i (j+1)
def pairsOf:List S37→Nat→List (List Int)
 |[],_=>[]
 |c::cs,i=>tl c cs i (i+1)++pairsOf cs (i+1)
theorem tl_length (c:S37) (l:List S37):∀i j,(tl c l i j).length≤l.length:=by
 induction l with
 |nil=>intro i j;simp[tl]
 |cons d ds ih=>
  intro i j
  have:=ih i (j+1)
  simp only[tl,List.length_append,List.length_cons]
  split<;>simp<;>omega
theorem touching_A (l:List S37) (n:Nat) (hn:l.length=n) (hn1:n≤100000) (hb:∀x∈l,bndC x) (i:Nat) (hi:i<n) (F:Nat)
 (hB:∀(k:Nat) (x3:List (List Int)),F<k→x3.length+(n-(i+1))*n≤1000000000000→impl_touching.l0 k l x3 l (n:Int) ((i+1:Nat):Int)=some (x3++pairsOf (l.drop (i+1)) (i+1))) (c:S37) (hc:bndC c) (d:Nat):
 ∀(j k:Nat) (x3:List (List Int)),j+d=n→F+d+1<k→x3.length+d+(n-(i+1))*n≤1000000000000→
  impl_touching.l1 k l x3 (i:Int) (j:Int) l (n:Int) (i:Int) c.f0 c.f1 c.f2 c.f3=some (x3++tl c (l.drop j) i j++pairsOf (l.drop (i+1)) (i+1)):=by
 induction d with
 |zero=>
  intro j k x3 hj hk hx
  obtain⟨k,rfl⟩:∃m,k=m+1:=⟨k-1,om⟩
  simp only[impl_touching.l1]
  rw[if_neg om,wrap_id om om,List.drop_of_length_le om,show((i:Int)+1)=((i+1:Nat):Int) by omega,hB k x3 om om]
  simp[tl]
 |succ d ih=>
  intro j k x3 hj hk hx
  obtain⟨k,rfl⟩:∃m,k=m+1:=⟨k-1,om⟩
  have hjl:j<l.length:=om
  simp only[impl_touching.l1]
  rw[if_pos om,if_pos om,rdC_at hjl,twice_f hc (hb _ (List.getElem_mem hjl)),wrap_id om om]
  simp only[Option.bind_some]
  rw[List.drop_eq_getElem_cons hjl,tl,show((j:Int)+1)=((j+1:Nat):Int) by omega]
  by_cases ht:twi c l[j]= -2
  ·rw[if_pos ht,if_pos om,if_pos ht,ih (j+1) k _ om om (by simp;omega)]
   simp
  ·rw[if_neg ht,if_neg ht,ih (j+1) k _ om om om]
   simp
theorem touching_B (l:List S37) (n:Nat) (hn:l.length=n) (hn1:n≤100000) (hb:∀x∈l,bndC x) (d:Nat):
 ∀(i k:Nat) (x3:List (List Int)),i+d=n→d*(n+3)<k→x3.length+(n-i)*n≤1000000000000→impl_touching.l0 k l x3 l (n:Int) (i:Int)=some (x3++pairsOf (l.drop i) i):=by
 induction d with
 |zero=>
  intro i k x3 hi hk hx
  obtain⟨k,rfl⟩:∃m,k=m+1:=⟨k-1,om⟩
  simp only[impl_touching.l0]
  rw[if_neg om,List.drop_of_length_le om]
  simp[pairsOf]
 |succ d ih=>
  intro i k x3 hi hk hx
  obtain⟨k,rfl⟩:∃m,k=m+1:=⟨k-1,om⟩
  have hil:i<l.length:=om
  have e:(d+1)*(n+3)=d*(n+3)+(n+3):=by rw[Nat.add_mul];omega
  have e2:(n-i)*n=(n-(i+1))*n+n:=by rw[show n-i=(n-(i+1))+1 by omega,Nat.add_mul];omega
  simp only[impl_touching.l0]
  rw[if_pos om,if_pos om,if_pos om,rdC_at hil,wrap_id om om,show((i:Int)+1)=((i+1:Nat):Int) by omega]
  rw[touching_A l n hn hn1 hb i om (d*(n+3)) (fun k x3 hk hx=>ih (i+1) k x3 om hk hx) l[i] (hb _ (List.getElem_mem hil)) (n-(i+1)) (i+1) k x3 om om om]
  rw[List.drop_eq_getElem_cons hil,pairsOf,List.append_assoc]
theorem touching_ev (l:List S37) (hn1:l.length≤100000) (hb:∀x∈l,bndC x):Ev (fun k=>impl_touching.f k l) (pairsOf l 0):=Ev.from (l.length*(l.length+3)) (fun k hk=>by
 unfold impl_touching.f
 have hm:l.length*l.length≤100000*100000:=Nat.mul_le_mul hn1 hn1
 have:=touching_B l l.length rfl hn1 hb l.length 0 k [] om hk (by simp;omega)
 simpa using this)
theorem ciFour_l (l:List S37) (hl:(l.length:Int)≤9223372036854775806) (d:Nat):∀(i:Nat),i+d=l.length→Ev (fun k=>spec_ciFour.l0 k l (l.length:Int) (i:Int)) ((l.drop i).all isC):=by
 induction d with
 |zero=>
  intro i hi
  refine Ev.from 0 (fun k hk=>?_)
  obtain⟨k,rfl⟩:∃m,k=m+1:=⟨k-1,om⟩
  simp only[spec_ciFour.l0]
  rw[if_neg om,List.drop_of_length_le om]
  rfl
 |succ d ih=>
  intro i hi
  have hil:i<l.length:=om
  have hg:=ciGood_ev l[i].f0 l[i].f1 l[i].f2 l[i].f3
  obtain⟨K,hK⟩:Ev (fun k=>(spec_ciGood.f k l[i].f0 l[i].f1 l[i].f2 l[i].f3).bind fun t=>if t=true then spec_ciFour.l0 k l (l.length:Int) ((i+1:Nat):Int)else some false) ((l.drop i).all isC):=by
   refine Ev.bind hg ?_
   rw[List.drop_eq_getElem_cons hil,List.all_cons]
   show Ev _ (isC l[i]&&_)
   cases isC l[i]with
   |true=>simp only[if_true,Bool.true_and];exact ih (i+1) om
   |false=>simp only[Bool.false_eq_true,if_false,Bool.false_and];exact Ev.now _
  refine Ev.from (K+1) (fun k hk=>?_)
  obtain⟨k,rfl⟩:∃m,k=m+1:=⟨k-1,om⟩
  simp only[spec_ciFour.l0]
  rw[if_pos om,if_pos om,if_pos om,rdC_at hil,wrap_id om om,show((i:Int)+1)=((i+1:Nat):Int) by omega]
  exact hK k om
def fourB (l:List S37):Bool:=decide (l.length=4)&&l.all isC
theorem ciFour_ev (l:List S37):Ev (fun k=>spec_ciFour.f k l) (fourB l):=by
 unfold spec_ciFour.f fourB
 by_cases h:l.length=4
 ·simp only[if_pos (show(l.length:Int)=4 by omega),decide_eq_true h,Bool.true_and]
  have:=ciFour_l l om l.length 0 om
  simpa using this
 ·simp only[if_neg (show¬(l.length:Int)=4 by omega),decide_eq_false h,Bool.false_and]
  exact Ev.now _
theorem areFour_f (l:List S37):impl_areFour.f l=some (fourB l):=by
 unfold impl_areFour.f fourB impl_areCircles.f
 by_cases h:l.length=4
 ·rw[if_pos (show(l.length:Int)=4 by omega),decide_eq_true h]
  rfl
 ·rw[if_neg (show¬(l.length:Int)=4 by omega),decide_eq_false h]
  rfl
theorem fourB_iff (l:List S37):fourB l=true↔∃a b c d,l=[a,b,c,d]∧isC a=true∧isC b=true∧isC c=true∧isC d=true:=by
 unfold fourB
 constructor
 ·intro h
  simp only[Bool.and_eq_true,decide_eq_true_eq]at h
  match l,h with
  |[a,b,c,d],h=>simp at h;exact⟨a,b,c,d,rfl,h⟩
 ·rintro⟨a,b,c,d,rfl,h0,h1,h2,h3⟩
  simp[h0,h1,h2,h3]
def pairs4 (a b c d:S37):Bool:=decide (twi b a= -2)&&(decide (twi c a= -2)&&(decide (twi c b= -2)&&(decide (twi d a= -2)&&(decide (twi d b= -2)&&decide (twi d c= -2)))))
def cfgB (l:List S37):Bool:=fourB l&&match l with
 |[a,b,c,d]=>pairs4 a b c d
 |_=>false
theorem to4 (a b c d:S37):decide ((pairsOf [a,b,c,d] 0).length=6)=pairs4 a b c d:=by
 have e:(pairsOf [a,b,c,d] 0).length=(if twi b a= -2 then 1 else 0)+(if twi c a= -2 then 1 else 0)+(if twi d a= -2 then 1 else 0)+(if twi c b= -2 then 1 else 0)+(if twi d b= -2 then 1 else 0)+(if twi d c= -2 then 1 else 0):=by
  simp only[pairsOf,tl,twi_comm a b,twi_comm a c,twi_comm a d,twi_comm b c,twi_comm b d,twi_comm c d,List.length_append,List.length_nil]
  have h:∀(p:Prop) [Decidable p] (x:List Int),(if p then[x]else[]).length=if p then 1 else 0:=by
   intro p _ x
   split<;>rfl
  simp only[h]
  omega
 rw[e]
 unfold pairs4
 by_cases h0:twi b a= -2<;>by_cases h1:twi c a= -2<;>by_cases h2:twi c b= -2<;>by_cases h3:twi d a= -2<;>by_cases h4:twi d b= -2<;>by_cases h5:twi d c= -2<;>simp[h0,h1,h2,h3,h4,h5]
theorem isConfig_ev (l:List S37):Ev (fun k=>impl_isConfig.f k l) (cfgB l):=by
 unfold impl_isConfig.f cfgB
 rw[areFour_f]
 simp only[Option.bind_some]
 cases h:fourB l with
 |false=>
  simp only[Bool.false_eq_true,if_false,Bool.false_and]
  exact Ev.now _
 |true=>
  simp only[if_true,Bool.true_and]
  obtain⟨a,b,c,d,rfl,ha,hb,hc,hd⟩:=(fourB_iff l).1 h
  refine Ev.bind (touching_ev _ sm ?_) ?_
  ·intro x hx
   simp at hx
   rcases hx with rfl|rfl|rfl|rfl
   ·exact isC_bnd ha
   ·exact isC_bnd hb
   ·exact isC_bnd hc
   ·exact isC_bnd hd
  ·refine Ev.all (congrArg some ?_)
   show _=pairs4 a b c d
   rw[←to4,←Bool.beq_eq_decide_eq]
   rw[Bool.eq_iff_iff,beq_iff_eq,beq_iff_eq]
   omega
def cfr (l:List S37):Nat→Nat→Bool
 |_,0=>true
 |i,d+1=>((l.take i).all fun y=>decide (twi (l.getD i z37) y= -2))&&cfr l (i+1) d
theorem cc_A (x0 x10:List S37) (x11 x12:Int) (c:S37) (hc:bndC c) (ys:List S37) (hy:∀y∈ys,bndC y) (hl:ys.length≤100000) (d:Nat):∀(i:Nat),i+d=ys.length→∀R:Bool,
 (if((ys.drop i).all fun y=>decide (twi c y= -2))=true then Ev (fun k=>spec_ciConfig.l0 k x0 x10 x11 (wrap64 (x12+1))) R else R=false)→
 Ev (fun k=>spec_ciConfig.l1 k x0 x10 x11 x12 ys (ys.length:Int) (i:Int) c.f0 c.f1 c.f2 c.f3) R:=by
 induction d with
 |zero=>
  intro i hi R hR
  rw[List.drop_of_length_le om]at hR
  simp only[List.all_nil,if_true]at hR
  refine Ev.step (f:=fun k=>spec_ciConfig.l0 k x0 x10 x11 (wrap64 (x12+1))) (fun k=>?_) hR
  simp only[spec_ciConfig.l1]
  rw[if_neg om]
 |succ d ih=>
  intro i hi R hR
  have hil:i<ys.length:=om
  rw[List.drop_eq_getElem_cons hil,List.all_cons]at hR
  by_cases ht:twi c ys[i]= -2
  ·rw[decide_eq_true ht,Bool.true_and]at hR
   refine Ev.step (f:=fun k=>spec_ciConfig.l1 k x0 x10 x11 x12 ys (ys.length:Int) ((i+1:Nat):Int) c.f0 c.f1 c.f2 c.f3) (fun k=>?_) (ih (i+1) om R hR)
   simp only[spec_ciConfig.l1]
   rw[if_pos om,if_pos om,if_pos om,rdC_at hil,ciTwice_f,twice_f hc (hy _ (List.getElem_mem hil)),wrap_id om om]
   simp only[Option.bind_some]
   rw[if_pos ht,show((i:Int)+1)=((i+1:Nat):Int) by omega]
  ·rw[decide_eq_false ht,Bool.false_and,if_neg (by decide)]at hR
   subst hR
   refine Ev.step (f:=fun _=>some false) (fun k=>?_) (Ev.now _)
   simp only[spec_ciConfig.l1]
   rw[if_pos om,if_pos om,if_pos om,rdC_at hil,ciTwice_f,twice_f hc (hy _ (List.getElem_mem hil))]
   simp only[Option.bind_some]
   rw[if_neg ht]
theorem cc_B (l:List S37) (hb:∀y∈l,bndC y) (hl:l.length≤100000) (d:Nat):∀(i:Nat),i+d=l.length→Ev (fun k=>spec_ciConfig.l0 k l l (l.length:Int) (i:Int)) (cfr l i d):=by
 induction d with
 |zero=>
  intro i hi
  refine Ev.step (f:=fun _=>some true) (fun k=>?_) (Ev.now _)
  simp only[spec_ciConfig.l0]
  rw[if_neg om]
 |succ d ih=>
  intro i hi
  have hil:i<l.length:=om
  have hr:l.getD i z37=l[i]:=by simp[List.getD_eq_getElem?_getD,List.getElem?_eq_getElem hil]
  have hlen:(l.take i).length=i:=by simp;omega
  have h:=cc_A l l (l.length:Int) (i:Int) l[i] (hb _ (List.getElem_mem hil)) (l.take i) (fun y hy=>hb y (List.mem_of_mem_take hy)) om (l.take i).length 0 om (cfr l i (d+1)) (by
   simp only[List.drop_zero,cfr,hr]
   split
   ·rename_i hq
    rw[hq,Bool.true_and,wrap_id om om,show((i:Int)+1)=((i+1:Nat):Int) by omega]
    exact ih (i+1) om
   ·rename_i hq
    rw[Bool.eq_false_iff.2 hq,Bool.false_and])
  refine Ev.step (f:=fun k=>spec_ciConfig.l1 k l l (l.length:Int) (i:Int) (l.take i) ((l.take i).length:Int) ((0:Nat):Int) l[i].f0 l[i].f1 l[i].f2 l[i].f3) (fun k=>?_) h
  simp only[spec_ciConfig.l0]
  rw[if_pos om,if_pos om,if_pos om,if_pos om,rdC_at hil]
  simp only[Option.bind_some,Int.toNat_natCast]
  rfl
theorem ciConfig_ev (l:List S37):Ev (fun k=>spec_ciConfig.f k l) (cfgB l):=by
 unfold spec_ciConfig.f cfgB
 refine Ev.bind (ciFour_ev l) ?_
 cases h:fourB l with
 |false=>
  simp only[Bool.false_eq_true,if_false,Bool.false_and]
  exact Ev.now _
 |true=>
  simp only[if_true,Bool.true_and]
  obtain⟨a,b,c,d,rfl,ha,hb,hc,hd⟩:=(fourB_iff l).1 h
  have hB:=cc_B [a,b,c,d] (by
   intro x hx
   simp at hx
   rcases hx with rfl|rfl|rfl|rfl
   ·exact isC_bnd ha
   ·exact isC_bnd hb
   ·exact isC_bnd hc
   ·exact isC_bnd hd) sm 4 0 rfl
  have e:cfr [a,b,c,d] 0 4=pairs4 a b c d:=by
   simp[cfr,pairs4,Bool.and_assoc]
  rw[e]at hB
  exact hB
def tk (g:S37→Int) (l:List S37) (j:Nat):Int:=((l.take j).map g).sum
theorem tk_succ (g:S37→Int) (l:List S37) {j:Nat} (h:j<l.length):tk g l (j+1)=tk g l j+g l[j]:=by
 unfold tk
 rw[List.take_succ_eq_append_getElem h,List.map_append,List.sum_append]
 simp only[List.map_cons,List.map_nil,List.sum_cons,List.sum_nil,Int.add_zero]
theorem tk_b (g:S37→Int) (l:List S37) (hb:∀x∈l,bnd (g x)):∀j,j≤l.length→ -(1000000*(j:Int))≤tk g l j∧tk g l j≤1000000*(j:Int):=by
 intro j
 induction j with
 |zero=>intro _;simp[tk]
 |succ j ih=>
  intro h
  have h1:=ih om
  have h2:=hb l[j] (List.getElem_mem (show j<l.length by omega))
  unfold bnd at h2
  rw[tk_succ g l om]
  omega
def cp (g:S37→Int) (l:List S37) (i:Nat):Int:=2*(tk g l l.length-g (l.getD i z37))-g (l.getD i z37)
def nc (l:List S37) (i:Nat):S37:=⟨cp S37.f0 l i,cp S37.f1 l i,cp S37.f2 l i,cp S37.f3 l i⟩
def swc (l:List S37) (i:Nat):List S37:=l.set i (nc l i)
def os (g:S37→Int) (l:List S37) (i j:Nat):Int:=tk g l j-(if i<j then g (l.getD i z37)else 0)
theorem gd {l:List S37} {i:Nat} (h:i<l.length):l.getD i z37=l[i]:=by simp[List.getD_eq_getElem?_getD,List.getElem?_eq_getElem h]
theorem os_self (g:S37→Int) (l:List S37) {i:Nat} (h:i<l.length):os g l i (i+1)=os g l i i:=by
 unfold os
 rw[tk_succ g l h,if_pos om,if_neg om,gd h]
 omega
theorem os_other (g:S37→Int) (l:List S37) {i j:Nat} (h:j<l.length) (hij:j≠i):os g l i (j+1)=os g l i j+g l[j]:=by
 unfold os
 rw[tk_succ g l h]
 by_cases h1:i<j
 ·rw[if_pos h1,if_pos om];omega
 ·rw[if_neg h1,if_neg om];omega
theorem os_b (g:S37→Int) (l:List S37) (hl:l.length=4) (hb:∀x∈l,bnd (g x)) {i:Nat} (hi:i<4) (j:Nat) (hj:j≤4): -5000000≤os g l i j∧os g l i j≤5000000:=by
 have h1:=tk_b g l hb j om
 have h2:=hb (l.getD i z37) (by rw[gd om];exact List.getElem_mem _)
 unfold bnd at h2
 unfold os
 split<;>omega
theorem ciSwap_l (l:List S37) (hl:l.length=4) (hb:∀x∈l,bndC x) {i:Nat} (hi:i<4) (d:Nat):∀j,j+d=4→
 Ev (fun k=>spec_ciSwap.l0 k l (i:Int) l l 4 (j:Int) (os S37.f0 l i j) (os S37.f1 l i j) (os S37.f2 l i j) (os S37.f3 l i j)) (swc l i):=by
 have b0:∀x∈l,bnd (S37.f0 x):=fun x hx=>(hb x hx).1
 have b1:∀x∈l,bnd (S37.f1 x):=fun x hx=>(hb x hx).2.1
 have b2:∀x∈l,bnd (S37.f2 x):=fun x hx=>(hb x hx).2.2.1
 have b3:∀x∈l,bnd (S37.f3 x):=fun x hx=>(hb x hx).2.2.2
 induction d with
 |zero=>
  intro j hj
  obtain rfl:j=4:=om
  refine Ev.step (f:=fun _=>some (swc l i)) (fun k=>?_) (Ev.now _)
  have q0:=os_b S37.f0 l hl b0 hi 4 om
  have q1:=os_b S37.f1 l hl b1 hi 4 om
  have q2:=os_b S37.f2 l hl b2 hi 4 om
  have q3:=os_b S37.f3 l hl b3 hi 4 om
  obtain⟨c0,c1,c2,c3⟩:=hb (l.getD i z37) (by rw[gd om];exact List.getElem_mem _)
  unfold bnd at c0 c1 c2 c3
  have hr:rd_T37 l (i:Int)=l.getD i z37:=by rw[rdC_at om,gd om]
  simp only[spec_ciSwap.l0,hl]
  rw[if_neg om,if_pos om,if_pos om,if_pos om,hr]
  rw[wrap_id (x:=2*os S37.f0 l i 4) om om,wrap_id (x:=2*os S37.f1 l i 4) om om,wrap_id (x:=2*os S37.f2 l i 4) om om,wrap_id (x:=2*os S37.f3 l i 4) om om]
  rw[wrap_id (x:=2*os S37.f0 l i 4-(l.getD i z37).f0) om om,wrap_id (x:=2*os S37.f1 l i 4-(l.getD i z37).f1) om om,wrap_id (x:=2*os S37.f2 l i 4-(l.getD i z37).f2) om om,wrap_id (x:=2*os S37.f3 l i 4-(l.getD i z37).f3) om om]
  unfold swc nc cp os
  rw[hl,if_pos hi,if_pos hi,if_pos hi,if_pos hi]
  simp only[Int.toNat_natCast]
 |succ d ih=>
  intro j hj
  have hjl:j<l.length:=om
  have h:=ih (j+1) om
  by_cases hij:j=i
  ·subst hij
   rw[os_self _ _ hjl,os_self _ _ hjl,os_self _ _ hjl,os_self _ _ hjl]at h
   refine Ev.step (f:=fun k=>spec_ciSwap.l0 k l (j:Int) l l 4 ((j+1:Nat):Int) (os S37.f0 l j j) (os S37.f1 l j j) (os S37.f2 l j j) (os S37.f3 l j j)) (fun k=>?_) h
   simp only[spec_ciSwap.l0]
   rw[if_pos om,if_pos om,if_pos om,if_pos trivial,wrap_id om om,show((j:Int)+1)=((j+1:Nat):Int) by omega]
  ·have q0:=os_b S37.f0 l hl b0 hi j om
   have q1:=os_b S37.f1 l hl b1 hi j om
   have q2:=os_b S37.f2 l hl b2 hi j om
   have q3:=os_b S37.f3 l hl b3 hi j om
   obtain⟨c0,c1,c2,c3⟩:=hb l[j] (List.getElem_mem _)
   unfold bnd at c0 c1 c2 c3
   rw[os_other _ _ hjl hij,os_other _ _ hjl hij,os_other _ _ hjl hij,os_other _ _ hjl hij]at h
   refine Ev.step (f:=fun k=>spec_ciSwap.l0 k l (i:Int) l l 4 ((j+1:Nat):Int) (os S37.f0 l i j+l[j].f0) (os S37.f1 l i j+l[j].f1) (os S37.f2 l i j+l[j].f2) (os S37.f3 l i j+l[j].f3)) (fun k=>?_) h
   simp only[spec_ciSwap.l0]
   rw[if_pos om,if_pos om,if_pos om,if_neg om,rdC_at hjl,wrap_id (x:=(j:Int)+1) om om,wrap_id (x:=os S37.f0 l i j+l[j].f0) om om,wrap_id (x:=os S37.f1 l i j+l[j].f1) om om,wrap_id (x:=os S37.f2 l i j+l[j].f2) om om,wrap_id (x:=os S37.f3 l i j+l[j].f3) om om,show((j:Int)+1)=((j+1:Nat):Int) by omega]
theorem ciSwap_ev (l:List S37) (hl:l.length=4) (hb:∀x∈l,bndC x) {i:Nat} (hi:i<4):Ev (fun k=>spec_ciSwap.f k l (i:Int)) (swc l i):=by
 have h:=ciSwap_l l hl hb hi 4 0 om
 have z:∀g:S37→Int,os g l i 0=0:=fun g=>by unfold os tk;rw[if_neg om];simp
 rw[z,z,z,z]at h
 unfold spec_ciSwap.f
 simp only[Option.bind_some,List.length_nil,List.nil_append,hl,if_pos (show 0+4<4398046511104 by decide)]
 exact h
theorem swapC_l (l:List S37) (hl:l.length=4) (hb:∀x∈l,bndC x) {i:Nat} (hi:i<4) (d:Nat):∀j,j+d=4→
 Ev (fun k=>impl_swapCircle.l0 k (i:Int) l l 4 (j:Int) (-3*(l.getD i z37).f0+2*tk S37.f0 l j) (-3*(l.getD i z37).f1+2*tk S37.f1 l j) (-3*(l.getD i z37).f2+2*tk S37.f2 l j) (-3*(l.getD i z37).f3+2*tk S37.f3 l j)) (swc l i,inC (nc l i)):=by
 have b0:∀x∈l,bnd (S37.f0 x):=fun x hx=>(hb x hx).1
 have b1:∀x∈l,bnd (S37.f1 x):=fun x hx=>(hb x hx).2.1
 have b2:∀x∈l,bnd (S37.f2 x):=fun x hx=>(hb x hx).2.2.1
 have b3:∀x∈l,bnd (S37.f3 x):=fun x hx=>(hb x hx).2.2.2
 obtain⟨e0,e1,e2,e3⟩:=hb (l.getD i z37) (by rw[gd om];exact List.getElem_mem _)
 unfold bnd at e0 e1 e2 e3
 induction d with
 |zero=>
  intro j hj
  obtain rfl:j=4:=om
  refine Ev.step (f:=fun _=>some (swc l i,inC (nc l i))) (fun k=>?_) (Ev.now _)
  simp only[impl_swapCircle.l0,hl]
  rw[if_neg om,if_pos om,if_pos om]
  have e:(⟨-3*(l.getD i z37).f0+2*tk S37.f0 l 4,-3*(l.getD i z37).f1+2*tk S37.f1 l 4,-3*(l.getD i z37).f2+2*tk S37.f2 l 4,-3*(l.getD i z37).f3+2*tk S37.f3 l 4⟩:S37)=nc l i:=by
   unfold nc cp
   rw[hl]
   congr 1<;>omega
  have e':([-3*(l.getD i z37).f0+2*tk S37.f0 l 4,-3*(l.getD i z37).f1+2*tk S37.f1 l 4,-3*(l.getD i z37).f2+2*tk S37.f2 l 4,-3*(l.getD i z37).f3+2*tk S37.f3 l 4]:List Int).all (inB (-1000000) 1000000)=inC (nc l i):=by rw[←e];rfl
  unfold impl_Circle_numbers.f impl_allWithin.f
  simp only[Option.bind_some,Int.toNat_natCast]
  rw[e',e]
  rfl
 |succ d ih=>
  intro j hj
  have hjl:j<l.length:=om
  have h:=ih (j+1) om
  have q0:=tk_b S37.f0 l b0 j om
  have q1:=tk_b S37.f1 l b1 j om
  have q2:=tk_b S37.f2 l b2 j om
  have q3:=tk_b S37.f3 l b3 j om
  obtain⟨c0,c1,c2,c3⟩:=hb l[j] (List.getElem_mem _)
  unfold bnd at c0 c1 c2 c3
  rw[tk_succ S37.f0 l hjl,tk_succ S37.f1 l hjl,tk_succ S37.f2 l hjl,tk_succ S37.f3 l hjl]at h
  refine Ev.step (f:=fun k=>impl_swapCircle.l0 k (i:Int) l l 4 ((j+1:Nat):Int) (-3*(l.getD i z37).f0+2*(tk S37.f0 l j+l[j].f0)) (-3*(l.getD i z37).f1+2*(tk S37.f1 l j+l[j].f1)) (-3*(l.getD i z37).f2+2*(tk S37.f2 l j+l[j].f2)) (-3*(l.getD i z37).f3+2*(tk S37.f3 l j+l[j].f3))) (fun k=>?_) h
  simp only[impl_swapCircle.l0]
  rw[if_pos om,if_pos om,if_pos om,rdC_at hjl,wrap_id (x:=(j:Int)+1) om om,wrap_id (x:=2*l[j].f0) om om,wrap_id (x:=2*l[j].f1) om om,wrap_id (x:=2*l[j].f2) om om,wrap_id (x:=2*l[j].f3) om om]
  rw[wrap_id (x:= -3*(l.getD i z37).f0+2*tk S37.f0 l j+2*l[j].f0) om om,wrap_id (x:= -3*(l.getD i z37).f1+2*tk S37.f1 l j+2*l[j].f1) om om,wrap_id (x:= -3*(l.getD i z37).f2+2*tk S37.f2 l j+2*l[j].f2) om om,wrap_id (x:= -3*(l.getD i z37).f3+2*tk S37.f3 l j+2*l[j].f3) om om]
  rw[show -3*(l.getD i z37).f0+2*tk S37.f0 l j+2*l[j].f0= -3*(l.getD i z37).f0+2*(tk S37.f0 l j+l[j].f0) by omega,show -3*(l.getD i z37).f1+2*tk S37.f1 l j+2*l[j].f1= -3*(l.getD i z37).f1+2*(tk S37.f1 l j+l[j].f1) by omega,show -3*(l.getD i z37).f2+2*tk S37.f2 l j+2*l[j].f2= -3*(l.getD i z37).f2+2*(tk S37.f2 l j+l[j].f2) by omega,show -3*(l.getD i z37).f3+2*tk S37.f3 l j+2*l[j].f3= -3*(l.getD i z37).f3+2*(tk S37.f3 l j+l[j].f3) by omega,show((j:Int)+1)=((j+1:Nat):Int) by omega]
theorem swapC_ev (l:List S37) (hl:l.length=4) (hb:∀x∈l,bndC x) {i:Nat} (hi:i<4):Ev (fun k=>impl_swapCircle.f k l (i:Int)) (swc l i,inC (nc l i)):=by
 have h:=swapC_l l hl hb hi 4 0 om
 have z:∀g:S37→Int,tk g l 0=0:=fun g=>by unfold tk;simp
 simp only[z,Int.mul_zero,Int.add_zero]at h
 obtain⟨e0,e1,e2,e3⟩:=hb (l.getD i z37) (by rw[gd om];exact List.getElem_mem _)
 unfold bnd at e0 e1 e2 e3
 have hr:rd_T37 l (i:Int)=l.getD i z37:=by rw[rdC_at om,gd om]
 unfold impl_swapCircle.f impl_Circle.f
 simp only[hl,if_pos (show(4:Nat)<4398046511104 by decide),Option.bind_some,hr]
 simp only[if_pos (show 0≤(i:Int) by omega),if_pos (show(i:Int)<((4:Nat):Int) by omega)]
 rw[wrap_id (x:= -3*(l.getD i z37).f0) om om,wrap_id (x:= -3*(l.getD i z37).f1) om om,wrap_id (x:= -3*(l.getD i z37).f2) om om,wrap_id (x:= -3*(l.getD i z37).f3) om om]
 exact h
def qf (x:S37):Int:=x.f2*x.f2+x.f3*x.f3-x.f0*x.f1
def mix (x y z w:S37):S37:=⟨2*(y.f0+z.f0+w.f0)-x.f0,2*(y.f1+z.f1+w.f1)-x.f1,2*(y.f2+z.f2+w.f2)-x.f2,2*(y.f3+z.f3+w.f3)-x.f3⟩
theorem tw_lin (x y z w u:S37):twi (mix x y z w) u=2*(twi y u+twi z u+twi w u)-twi x u:=by
 unfold twi mix
 grind
theorem tw_self (y:S37):twi y y=2*qf y:=by
 unfold twi qf
 grind
theorem mix_ok {x y z w:S37} (hx:qf x=1) (hy:qf y=1) (hz:qf z=1) (hw:qf w=1) (xy:twi x y= -2) (xz:twi x z= -2) (xw:twi x w= -2) (yz:twi y z= -2) (yw:twi y w= -2) (zw:twi z w= -2):
 qf (mix x y z w)=1∧twi (mix x y z w) y= -2∧twi (mix x y z w) z= -2∧twi (mix x y z w) w= -2:=by
 have sx:=tw_self x
 have sy:=tw_self y
 have sz:=tw_self z
 have sw:=tw_self w
 have sn:=tw_self (mix x y z w)
 have ny:=tw_lin x y z w y
 have nz:=tw_lin x y z w z
 have nw:=tw_lin x y z w w
 have nx:=tw_lin x y z w x
 have nn:=tw_lin x y z w (mix x y z w)
 rw[twi_comm z y,twi_comm w y]at ny
 rw[twi_comm w z]at nz
 rw[twi_comm y x,twi_comm z x,twi_comm w x]at nx
 rw[twi_comm y (mix x y z w),twi_comm z (mix x y z w),twi_comm w (mix x y z w),twi_comm x (mix x y z w)]at nn
 omega
theorem cfgB_iff {l:List S37}:cfgB l=true↔∃a b c d,l=[a,b,c,d]∧(isC a=true∧isC b=true∧isC c=true∧isC d=true)∧twi a b= -2∧twi a c= -2∧twi a d= -2∧twi b c= -2∧twi b d= -2∧twi c d= -2:=by
 constructor
 ·intro h
  unfold cfgB at h
  simp only[Bool.and_eq_true]at h
  obtain⟨a,b,c,d,rfl,h4⟩:=(fourB_iff l).1 h.1
  have h2:=h.2
  simp only[pairs4,Bool.and_eq_true,decide_eq_true_eq]at h2
  obtain⟨p1,p2,p3,p4,p5,p6⟩:=h2
  rw[twi_comm]at p1 p2 p3 p4 p5 p6
  exact⟨a,b,c,d,rfl,h4,p1,p2,p4,p3,p5,p6⟩
 ·rintro⟨a,b,c,d,rfl,h4,p1,p2,p4,p3,p5,p6⟩
  unfold cfgB
  rw[(fourB_iff _).2 ⟨a,b,c,d,rfl,h4⟩]
  rw[twi_comm]at p1 p2 p3 p4 p5 p6
  simp[pairs4,p1,p2,p3,p4,p5,p6]
theorem isC_q {x:S37} (h:isC x=true):qf x=1:=((isC_iff x).1 h).2
theorem isC_mix {x:S37} (h:qf x=1):isC x=inC x:=by
 rw[Bool.eq_iff_iff,isC_iff,inC_iff]
 exact⟨fun q=>q.1,fun q=>⟨q,h⟩⟩
theorem tk4 (g:S37→Int) (a b c d:S37):tk g [a,b,c,d] 4=g a+g b+g c+g d:=by
 simp[tk]
 omega
theorem nc0 (a b c d:S37):nc [a,b,c,d] 0=mix a b c d:=by
 unfold nc cp mix
 simp only[List.length_cons,List.length_nil,Nat.zero_add,Nat.reduceAdd,tk4,List.getD_cons_zero,S37.mk.injEq]
 omega
theorem nc1 (a b c d:S37):nc [a,b,c,d] 1=mix b a c d:=by
 unfold nc cp mix
 simp only[List.length_cons,List.length_nil,Nat.zero_add,Nat.reduceAdd,tk4,List.getD_cons_succ,List.getD_cons_zero,S37.mk.injEq]
 omega
theorem nc2 (a b c d:S37):nc [a,b,c,d] 2=mix c a b d:=by
 unfold nc cp mix
 simp only[List.length_cons,List.length_nil,Nat.zero_add,Nat.reduceAdd,tk4,List.getD_cons_succ,List.getD_cons_zero,S37.mk.injEq]
 omega
theorem nc3 (a b c d:S37):nc [a,b,c,d] 3=mix d a b c:=by
 unfold nc cp mix
 simp only[List.length_cons,List.length_nil,Nat.zero_add,Nat.reduceAdd,tk4,List.getD_cons_succ,List.getD_cons_zero,S37.mk.injEq]
 omega
theorem cfg_swc {l:List S37} (h:cfgB l=true) {i:Nat} (hi:i<4):isC (nc l i)=inC (nc l i)∧(inC (nc l i)=true→cfgB (swc l i)=true):=by
 obtain⟨a,b,c,d,rfl,⟨ha,hb,hc,hd⟩,ab,ac,ad,bc,bd,cd⟩:=cfgB_iff.1 h
 have qa:=isC_q ha
 have qb:=isC_q hb
 have qc:=isC_q hc
 have qd:=isC_q hd
 unfold swc
 match i,hi with
 |0,_=>
  rw[nc0]
  obtain⟨m0,m1,m2,m3⟩:=mix_ok qa qb qc qd ab ac ad bc bd cd
  exact⟨isC_mix m0,fun q=>cfgB_iff.2 ⟨_,b,c,d,rfl,⟨(isC_mix m0).trans q,hb,hc,hd⟩,m1,m2,m3,bc,bd,cd⟩⟩
 |1,_=>
  rw[nc1]
  obtain⟨m0,m1,m2,m3⟩:=mix_ok qb qa qc qd (by rw[twi_comm];exact ab) bc bd ac ad cd
  exact⟨isC_mix m0,fun q=>cfgB_iff.2 ⟨a,_,c,d,rfl,⟨ha,(isC_mix m0).trans q,hc,hd⟩,by rw[twi_comm];exact m1,ac,ad,m2,m3,cd⟩⟩
 |2,_=>
  rw[nc2]
  obtain⟨m0,m1,m2,m3⟩:=mix_ok qc qa qb qd (by rw[twi_comm];exact ac) (by rw[twi_comm];exact bc) cd ab ad bd
  exact⟨isC_mix m0,fun q=>cfgB_iff.2 ⟨a,b,_,d,rfl,⟨ha,hb,(isC_mix m0).trans q,hd⟩,ab,by rw[twi_comm];exact m1,ad,by rw[twi_comm];exact m2,bd,m3⟩⟩
 |3,_=>
  rw[nc3]
  obtain⟨m0,m1,m2,m3⟩:=mix_ok qd qa qb qc (by rw[twi_comm];exact ad) (by rw[twi_comm];exact bd) (by rw[twi_comm];exact cd) ab ac bc
  exact⟨isC_mix m0,fun q=>cfgB_iff.2 ⟨a,b,c,_,rfl,⟨ha,hb,hc,(isC_mix m0).trans q⟩,ab,ac,by rw[twi_comm];exact m1,bc,by rw[twi_comm];exact m2,by rw[twi_comm];exact m3⟩⟩
 |(i+4),h=>omega
theorem cfg_len {l:List S37} (h:cfgB l=true):l.length=4:=by
 obtain⟨a,b,c,d,rfl,_⟩:=cfgB_iff.1 h
 rfl
theorem cfg_bnd {l:List S37} (h:cfgB l=true):∀x∈l,bndC x:=by
 obtain⟨a,b,c,d,rfl,⟨ha,hb,hc,hd⟩,_⟩:=cfgB_iff.1 h
 intro x hx
 simp at hx
 rcases hx with rfl|rfl|rfl|rfl
 ·exact isC_bnd ha
 ·exact isC_bnd hb
 ·exact isC_bnd hc
 ·exact isC_bnd hd
theorem swc_length (l:List S37) (i:Nat):(swc l i).length=l.length:=by simp[swc]
theorem swc_get {l:List S37} {i:Nat} (h:i<l.length):rd_T37 (swc l i) (i:Int)=nc l i:=by
 rw[rdC_at (by rw[swc_length];exact h)]
 simp[swc]
def runC (l:List S37):List Int→List S37 × Bool
 |[]=>(l,true)
 |i::w=>if inC (nc l i.toNat)=true then runC (swc l i.toNat) w else([],false)
theorem runC_len (w:List Int):∀l:List S37,l.length≤4→(runC l w).1.length≤4:=by
 induction w with
 |nil=>intro l h;exact h
 |cons i w ih=>
  intro l h
  simp only[runC]
  split
  ·exact ih _ (by rw[swc_length];exact h)
  ·simp
theorem in03 {w:List Int} (h:w.all (inB 0 3)=true) {j:Nat} (hj:j<w.length):0≤w[j]∧w[j]≤3:=by
 have:=List.all_eq_true.1 h w[j] (List.getElem_mem hj)
 exact inB_iff.1 this
theorem folS_l (w:List Int) (hw:w.all (inB 0 3)=true) (hl:w.length≤1000) (d:Nat):∀(j:Nat) (q:List S37),j+d=w.length→cfgB q=true→Ev (fun k=>spec_FollowCircles.l0 k q w (w.length:Int) (j:Int)) (runC q (w.drop j)):=by
 induction d with
 |zero=>
  intro j q hj hq
  rw[List.drop_of_length_le om]
  refine Ev.step (f:=fun _=>some (q,true)) (fun k=>?_) (Ev.now _)
  simp only[spec_FollowCircles.l0]
  rw[if_neg om]
 |succ d ih=>
  intro j q hj hq
  have hjl:j<w.length:=om
  have hb:=in03 hw hjl
  obtain⟨i,hi⟩:∃i:Nat,w[j]=i:=⟨w[j].toNat,om⟩
  have hi4:i<4:=om
  have h4:=cfg_len hq
  have hs:=ciSwap_ev q h4 (cfg_bnd hq) hi4
  have hg:=ciGood_ev (nc q i).f0 (nc q i).f1 (nc q i).f2 (nc q i).f3
  obtain⟨c1,c2⟩:=cfg_swc hq hi4
  rw[show(⟨(nc q i).f0,(nc q i).f1,(nc q i).f2,(nc q i).f3⟩:S37)=nc q i from rfl,c1]at hg
  rw[List.drop_eq_getElem_cons hjl,hi]
  simp only[runC,Int.toNat_natCast]
  refine Ev.step (f:=fun k=>(spec_ciSwap.f k q (i:Int)).bind fun t692=>(if 0≤(i:Int)then(if(i:Int)<(t692.length:Int)then((spec_ciGood.f k ((rd_T37 t692 (i:Int)).f0) ((rd_T37 t692 (i:Int)).f1) ((rd_T37 t692 (i:Int)).f2) ((rd_T37 t692 (i:Int)).f3)).bind fun t696=>(if t696=true then(spec_FollowCircles.l0 k t692 w (w.length:Int) ((j+1:Nat):Int))else(some (([]:List (S37)),false))))else(none))else(none))) (fun k=>?_) ?_
  ·simp only[spec_FollowCircles.l0]
   rw[if_pos om,if_pos om,if_pos om,rdi_at hjl,hi,wrap_id om om,show((j:Int)+1)=((j+1:Nat):Int) by omega]
  ·refine Ev.bind hs ?_
   simp only[swc_length,h4,if_pos (show 0≤(i:Int) by omega),if_pos (show(i:Int)<((4:Nat):Int) by omega),swc_get (show i<q.length by omega)]
   refine Ev.bind hg ?_
   cases hqq:inC (nc q i)with
   |true=>simp only[if_true];exact ih (j+1) (swc q i) om (c2 hqq)
   |false=>simp only[Bool.false_eq_true,if_false];exact Ev.now _
def folR (l:List S37) (w:List Int):List S37 × Bool:=if cfgB l=true∧w.length≤40∧w.all (inB 0 3)=true then runC l w else([],false)
theorem folR_len (l:List S37) (w:List Int):(folR l w).1.length≤4:=by
 unfold folR
 split
 ·rename_i h
  exact runC_len w l (by have:=cfg_len h.1;omega)
 ·simp
theorem folS_ev (l:List S37) (w:List Int) (hlw:(w.length:Int)≤9223372036854775806):Ev (fun k=>spec_FollowCircles.f k l w) (folR l w):=by
 have hu:=ciConfig_ev l
 have js:Ev (fun k=>spec_FollowCircles.j0 k l w true) (([]:List S37),false):=Ev.step (fun _=>spec_FollowCircles.j0.eq_2 ..) (by simp only[if_true];exact Ev.now _)
 unfold spec_FollowCircles.f folR
 refine Ev.bind hu ?_
 cases hq:cfgB l with
 |false=>simp only[Bool.false_eq_true,if_false,false_and];exact js
 |true=>
  simp only[if_true,true_and]
  by_cases hw:(w.length:Int)>40
  ·simp only[if_pos hw,if_neg (show¬(w.length≤40∧w.all (inB 0 3)=true) by omega)]
   exact js
  ·simp only[if_neg hw]
   have ha:=l1All_ev 0 3 w hlw
   cases hall:w.all (inB 0 3)with
   |false=>
    rw[hall]at ha
    simp only[Bool.false_eq_true,and_false,if_false]
    exact Ev.bind ha js
   |true=>
    rw[hall]at ha
    simp only[and_true,if_pos (show w.length≤40 by omega)]
    have ei:=folS_l w hall om w.length 0 l om hq
    rw[List.drop_zero]at ei
    refine Ev.bind ha ?_
    refine Ev.step (fun _=>spec_FollowCircles.j0.eq_2 ..) ?_
    simp only[Bool.not_true,Bool.false_eq_true,if_false,Option.bind_some,List.length_nil,List.nil_append,cfg_len hq,if_pos (show 0+4<4398046511104 by decide)]
    exact ei
theorem curvS_l (l:List S37) (hl:l.length≤100000) (d:Nat):∀(i:Nat) (x:List Int),i+d=l.length→x.length≤i→Ev (fun k=>spec_ciCurvatures.l0 k x l (l.length:Int) (i:Int)) (x++(l.drop i).map S37.f1):=by
 induction d with
 |zero=>
  intro i x hi hx
  rw[List.drop_of_length_le om]
  refine Ev.step (f:=fun _=>some x) (fun k=>?_) (by simp only[List.map_nil,List.append_nil];exact Ev.now _)
  simp only[spec_ciCurvatures.l0]
  rw[if_neg om]
 |succ d ih=>
  intro i x hi hx
  have hil:i<l.length:=om
  rw[List.drop_eq_getElem_cons hil]
  refine Ev.step (f:=fun k=>spec_ciCurvatures.l0 k (x++[l[i].f1]) l (l.length:Int) ((i+1:Nat):Int)) (fun k=>?_) (by
   have:=ih (i+1) (x++[l[i].f1]) om (by simp;omega)
   rw[List.append_assoc]at this
   exact this)
  simp only[spec_ciCurvatures.l0]
  rw[if_pos om,if_pos om,if_pos om,if_pos om,rdC_at hil,wrap_id om om,show((i:Int)+1)=((i+1:Nat):Int) by omega]
theorem curvI_l (l:List S37) (hl:l.length≤100000) (d:Nat):∀(i:Nat) (x:List Int),i+d=l.length→x.length≤i→Ev (fun k=>impl_curvatures.l0 k x l (l.length:Int) (i:Int)) (x++(l.drop i).map S37.f1):=by
 induction d with
 |zero=>
  intro i x hi hx
  rw[List.drop_of_length_le om]
  refine Ev.step (f:=fun _=>some x) (fun k=>?_) (by simp only[List.map_nil,List.append_nil];exact Ev.now _)
  simp only[impl_curvatures.l0]
  rw[if_neg om]
 |succ d ih=>
  intro i x hi hx
  have hil:i<l.length:=om
  rw[List.drop_eq_getElem_cons hil]
  refine Ev.step (f:=fun k=>impl_curvatures.l0 k (x++[l[i].f1]) l (l.length:Int) ((i+1:Nat):Int)) (fun k=>?_) (by
   have:=ih (i+1) (x++[l[i].f1]) om (by simp;omega)
   rw[List.append_assoc]at this
   exact this)
  simp only[impl_curvatures.l0]
  rw[if_pos om,if_pos om,if_pos om,if_pos om,rdC_at hil,wrap_id om om,show((i:Int)+1)=((i+1:Nat):Int) by omega]
def bq (x:Int):Prop:= -100000≤x∧x≤100000
def form4 (a b c d:Int):Bool:=decide (a+b+c+d>0)&&(2*(a*a+b*b+c*c+d*d)==(a+b+c+d)*(a+b+c+d))
def quadB (l:List Int):Bool:=(decide (l.length=4)&&l.all (inB (-100000) 100000))&&match l with
 |[a,b,c,d]=>form4 a b c d
 |_=>false
theorem four {l:List Int} (h:l.length=4):∃a b c d,l=[a,b,c,d]:=by
 match l,h with
 |[a,b,c,d],_=>exact⟨a,b,c,d,rfl⟩
theorem quadB_iff {l:List Int}:quadB l=true↔∃a b c d,l=[a,b,c,d]∧bq a∧bq b∧bq c∧bq d∧a+b+c+d>0∧2*(a*a+b*b+c*c+d*d)=(a+b+c+d)*(a+b+c+d):=by
 constructor
 ·intro h
  simp only[quadB,Bool.and_eq_true,decide_eq_true_eq]at h
  obtain⟨a,b,c,d,rfl⟩:=four h.1.1
  simp only[List.all_cons,List.all_nil,Bool.and_true,Bool.and_eq_true,inB_iff,form4,decide_eq_true_eq,beq_iff_eq]at h
  exact⟨a,b,c,d,rfl,h.1.2.1,h.1.2.2.1,h.1.2.2.2.1,h.1.2.2.2.2,h.2.1,h.2.2⟩
 ·rintro⟨a,b,c,d,rfl,h0,h1,h2,h3,h4,h5⟩
  simp only[quadB,Bool.and_eq_true,decide_eq_true_eq,List.all_cons,List.all_nil,Bool.and_true,inB_iff,form4,beq_iff_eq,List.length_cons,List.length_nil]
  exact⟨⟨trivial,h0,h1,h2,h3⟩,h4,h5⟩
theorem r40 (a b c d:Int):rd [a,b,c,d] 0=a:=Eq.trans rfl rfl
theorem r41 (a b c d:Int):rd [a,b,c,d] 1=b:=Eq.trans rfl rfl
theorem r42 (a b c d:Int):rd [a,b,c,d] 2=c:=Eq.trans rfl rfl
theorem r43 (a b c d:Int):rd [a,b,c,d] 3=d:=Eq.trans rfl rfl
theorem w01:wrap64 (0+1)=1:=wrap_id (x:=0+1) (by decide) (by decide)
theorem w12:wrap64 (1+1)=2:=wrap_id (x:=1+1) (by decide) (by decide)
theorem w23:wrap64 (2+1)=3:=wrap_id (x:=2+1) (by decide) (by decide)
theorem w34:wrap64 (3+1)=4:=wrap_id (x:=3+1) (by decide) (by decide)
theorem i04:(0:Int)<4:=by decide
theorem i14:(1:Int)<4:=by decide
theorem i24:(2:Int)<4:=by decide
theorem i34:(3:Int)<4:=by decide
theorem i44:¬(4:Int)<4:=by decide
theorem i00:(0:Int)≤0:=by decide
theorem i01:(0:Int)≤1:=by decide
theorem i02:(0:Int)≤2:=by decide
theorem i03:(0:Int)≤3:=by decide
theorem len4 (a b c d:Int):(([a,b,c,d]:List Int).length:Int)=4:=rfl
theorem sums {a b c d:Int} (h0:bq a) (h1:bq b) (h2:bq c) (h3:bq d):
 (0≤a*a∧a*a≤10000000000)∧(0≤b*b∧b*b≤10000000000)∧(0≤c*c∧c*c≤10000000000)∧(0≤d*d∧d*d≤10000000000)∧ -160000000000≤(a+b+c+d)*(a+b+c+d)∧(a+b+c+d)*(a+b+c+d)≤160000000000:=by
 unfold bq at*
 have nn:∀x:Int,0≤x*x:=fun x=>by
  rcases Int.le_total 0 x with h|h
  ·exact Int.mul_nonneg h h
  ·have:=Int.mul_nonneg (show 0≤ -x by omega) (show 0≤ -x by omega);grind
 refine⟨⟨nn a,(sqb (A:=100000) (B:=100000) om h0.2 om h0.2).2⟩,⟨nn b,(sqb (A:=100000) (B:=100000) om h1.2 om h1.2).2⟩,⟨nn c,(sqb (A:=100000) (B:=100000) om h2.2 om h2.2).2⟩,⟨nn d,(sqb (A:=100000) (B:=100000) om h3.2 om h3.2).2⟩,?_⟩
 exact sqb (A:=400000) (B:=400000) om om om om
theorem apGood_l {a b c d:Int} (h0:bq a) (h1:bq b) (h2:bq c) (h3:bq d) (k:Nat):spec_apGood.l0 (k+5) 0 0 [a,b,c,d] 4 0=some (form4 a b c d):=by
 obtain⟨s0,s1,s2,s3,s4⟩:=sums h0 h1 h2 h3
 unfold bq at h0 h1 h2 h3
 simp only[spec_apGood.l0,len4,r40,r41,r42,r43,w01,w12,w23,w34,if_pos i04,if_pos i14,if_pos i24,if_pos i34,if_neg i44,if_pos i00,if_pos i01,if_pos i02,if_pos i03]
 rw[Int.zero_add,Int.zero_add,wrap_id (x:=a) om om,wrap_id (x:=a*a) om om,wrap_id (x:=a*a) om om,wrap_id (x:=b*b) om om,wrap_id (x:=c*c) om om,wrap_id (x:=d*d) om om,wrap_id (x:=a+b) om om,wrap_id (x:=a+b+c) om om,wrap_id (x:=a+b+c+d) om om,wrap_id (x:=a*a+b*b) om om,wrap_id (x:=a*a+b*b+c*c) om om,wrap_id (x:=a*a+b*b+c*c+d*d) om om,wrap_id (x:=2*(a*a+b*b+c*c+d*d)) om om,wrap_id (x:=(a+b+c+d)*(a+b+c+d)) om om]
 unfold form4
 by_cases h:a+b+c+d>0
 ·rw[if_pos h,decide_eq_true h,Bool.true_and]
 ·rw[if_neg h,decide_eq_false h,Bool.false_and]
theorem apGood_ev (l:List Int) (hl:(l.length:Int)≤9223372036854775806):Ev (fun k=>spec_apGood.f k l) (quadB l):=by
 have j0:∀x,Ev (fun k=>spec_apGood.j0 k x true) false:=fun x=>Ev.from 0 (fun k hk=>by
  obtain⟨k,rfl⟩:∃m,k=m+1:=⟨k-1,om⟩
  simp[spec_apGood.j0])
 unfold spec_apGood.f quadB
 by_cases h:l.length=4
 ·have ha:=l1All_ev (-100000) 100000 l hl
  simp only[if_pos (show(l.length:Int)=4 by omega),decide_eq_true h,Bool.true_and]
  refine Ev.bind ha ?_
  cases hb:l.all (inB (-100000) 100000)with
  |false=>simp only[Bool.not_false,Bool.false_and];exact j0 l
  |true=>
   obtain⟨a,b,c,d,rfl⟩:=four h
   simp only[List.all_cons,List.all_nil,Bool.and_true,Bool.and_eq_true,inB_iff]at hb
   simp only[Bool.not_true,Bool.true_and]
   refine Ev.from 10 (fun k hk=>?_)
   obtain⟨k,rfl⟩:∃m,k=m+6:=⟨k-6,om⟩
   simp only[spec_apGood.j0,Bool.false_eq_true,if_false]
   exact apGood_l hb.1 hb.2.1 hb.2.2.1 hb.2.2.2 k
 ·simp only[if_neg (show¬(l.length:Int)=4 by omega),decide_eq_false h,Bool.false_and]
  exact j0 l
theorem sumOf_l {a b c d:Int} (h0:bq a) (h1:bq b) (h2:bq c) (h3:bq d) (k:Nat):impl_sumOf.f (k+5) [a,b,c,d]=some (a+b+c+d):=by
 unfold bq at h0 h1 h2 h3
 unfold impl_sumOf.f
 simp only[impl_sumOf.l0,len4,r40,r41,r42,r43,w01,w12,w23,w34,if_pos i04,if_pos i14,if_pos i24,if_pos i34,if_neg i44,if_pos i00,if_pos i01,if_pos i02,if_pos i03]
 rw[Int.zero_add,wrap_id (x:=a) om om,wrap_id (x:=a+b) om om,wrap_id (x:=a+b+c) om om,wrap_id (x:=a+b+c+d) om om]
theorem dot_l {a b c d:Int} (h0:bq a) (h1:bq b) (h2:bq c) (h3:bq d) (k:Nat):impl_dot.f (k+5) [a,b,c,d] [a,b,c,d]=some (a*a+b*b+c*c+d*d):=by
 obtain⟨s0,s1,s2,s3,s4⟩:=sums h0 h1 h2 h3
 unfold impl_dot.f
 simp only[impl_dot.l0,len4,r40,r41,r42,r43,w01,w12,w23,w34,if_pos i04,if_pos i14,if_pos i24,if_pos i34,if_neg i44,if_pos i00,if_pos i01,if_pos i02,if_pos i03]
 rw[Int.zero_add,wrap_id (x:=a*a) om om,wrap_id (x:=a*a) om om,wrap_id (x:=b*b) om om,wrap_id (x:=c*c) om om,wrap_id (x:=d*d) om om,wrap_id (x:=a*a+b*b) om om,wrap_id (x:=a*a+b*b+c*c) om om,wrap_id (x:=a*a+b*b+c*c+d*d) om om]
theorem isQuad_ev (l:List Int):Ev (fun k=>impl_IsQuad.f k l) (quadB l):=by
 have j0:∀x,Ev (fun k=>impl_IsQuad.j0 k x true) false:=fun x=>Ev.from 0 (fun k hk=>by
  obtain⟨k,rfl⟩:∃m,k=m+1:=⟨k-1,om⟩
  simp[impl_IsQuad.j0])
 unfold impl_IsQuad.f impl_allWithin.f quadB
 by_cases h:l.length=4
 ·simp only[if_pos (show(l.length:Int)=4 by omega),decide_eq_true h,Bool.true_and,Option.bind_some]
  cases hb:l.all (inB (-100000) 100000)with
  |false=>simp only[Bool.not_false,Bool.false_and];exact j0 l
  |true=>
   obtain⟨a,b,c,d,rfl⟩:=four h
   simp only[List.all_cons,List.all_nil,Bool.and_true,Bool.and_eq_true,inB_iff]at hb
   simp only[Bool.not_true,Bool.true_and]
   refine Ev.from 10 (fun k hk=>?_)
   obtain⟨k,rfl⟩:∃m,k=m+6:=⟨k-6,om⟩
   simp only[impl_IsQuad.j0,Bool.false_eq_true,if_false]
   rw[sumOf_l hb.1 hb.2.1 hb.2.2.1 hb.2.2.2 k,dot_l hb.1 hb.2.1 hb.2.2.1 hb.2.2.2 k]
   obtain⟨s0,s1,s2,s3,s4⟩:=sums hb.1 hb.2.1 hb.2.2.1 hb.2.2.2
   simp only[Option.bind_some]
   rw[wrap_id (x:=2*(a*a+b*b+c*c+d*d)) om om,wrap_id (x:=(a+b+c+d)*(a+b+c+d)) om om]
   unfold form4
   by_cases h:a+b+c+d>0
   ·rw[if_pos h,decide_eq_true h,Bool.true_and]
   ·rw[if_neg h,decide_eq_false h,Bool.false_and]
 ·simp only[if_neg (show¬(l.length:Int)=4 by omega),decide_eq_false h,Bool.false_and]
  exact j0 l
theorem sq_nn (x:Int):0≤x*x:=by
 rcases Int.le_total 0 x with h|h
 ·exact Int.mul_nonneg h h
 ·have:=Int.mul_nonneg (show 0≤ -x by omega) (show 0≤ -x by omega);grind
theorem swap_pos {x y z:Int} (h1:x+y>0) (h2:2*(x*x+z)=(x+y)*(x+y)) (h3:y*y≤3*z):3*y-x>0:=by
 rcases Int.lt_or_le 0 (3*y-x)with h|h
 ·exact h
 ·obtain⟨t,ht⟩:∃t,t=x-3*y:=⟨_,rfl⟩
  have hx:x=3*y+t:=om
  have ht0:0≤t:=om
  subst hx
  have key:8*(y*y)+12*(y*t)+3*(t*t)≤0:=by grind
  have n1:=sq_nn y
  have n2:=sq_nn t
  rcases Int.lt_or_le y 0 with hy|hy
  ·have n3:=Int.mul_nonneg ht0 (show 0≤4*y+t by omega)
   have n4:0<y*y:=by
    have:=Int.mul_pos (show 0< -y by omega) (show 0< -y by omega);grind
   grind
  ·have n3:=Int.mul_nonneg hy ht0
   have n5:y*y=0:=om
   have n6:t*t=0:=om
   have n7:y=0:=by
    rcases Int.mul_eq_zero.1 n5 with h|h<;>exact h
   have n8:t=0:=by
    rcases Int.mul_eq_zero.1 n6 with h|h<;>exact h
   omega
theorem three_sq (b c d:Int):(b+c+d)*(b+c+d)≤3*(b*b+c*c+d*d):=by
 have h1:=sq_nn (b-c)
 have h2:=sq_nn (b-d)
 have h3:=sq_nn (c-d)
 grind
theorem swap_form {x b c d:Int} (h1:x+b+c+d>0) (h2:2*(x*x+b*b+c*c+d*d)=(x+b+c+d)*(x+b+c+d)):
 (2*(b+c+d)-x)+b+c+d>0∧2*((2*(b+c+d)-x)*(2*(b+c+d)-x)+b*b+c*c+d*d)=((2*(b+c+d)-x)+b+c+d)*((2*(b+c+d)-x)+b+c+d):=by
 constructor
 ·have:=swap_pos (x:=x) (y:=b+c+d) (z:=b*b+c*c+d*d) om (by grind) (three_sq b c d)
  omega
 ·grind
def swl (l:List Int) (i:Nat):List Int:=l.set i (2*(l.sum-l.getD i 0)-l.getD i 0)
theorem swl0 (a b c d:Int):swl [a,b,c,d] 0=[2*(b+c+d)-a,b,c,d]:=by
 simp[swl];omega
theorem swl1 (a b c d:Int):swl [a,b,c,d] 1=[a,2*(a+c+d)-b,c,d]:=by
 simp[swl];omega
theorem swl2 (a b c d:Int):swl [a,b,c,d] 2=[a,b,2*(a+b+d)-c,d]:=by
 simp[swl];omega
theorem swl3 (a b c d:Int):swl [a,b,c,d] 3=[a,b,c,2*(a+b+c)-d]:=by
 simp[swl];omega
theorem quad_swl {l:List Int} (hq:quadB l=true) {i:Nat} (hi:i<4):quadB (swl l i)=inB (-100000) 100000 ((swl l i).getD i 0):=by
 obtain⟨a,b,c,d,rfl,h0,h1,h2,h3,h4,h5⟩:=quadB_iff.1 hq
 rw[Bool.eq_iff_iff,quadB_iff,inB_iff]
 match i,hi with
 |0,_=>
  rw[swl0]
  constructor
  ·rintro⟨a',b',c',d',e,q,_⟩
   simp only[List.cons.injEq]at e
   obtain⟨rfl,_⟩:=e
   exact q
  ·intro q
   have:=swap_form (x:=a) (b:=b) (c:=c) (d:=d) om (by grind)
   exact⟨_,_,_,_,rfl,q,h1,h2,h3,om,by grind⟩
 |1,_=>
  rw[swl1]
  constructor
  ·rintro⟨a',b',c',d',e,_,q,_⟩
   simp only[List.cons.injEq]at e
   obtain⟨_,rfl,_⟩:=e
   exact q
  ·intro q
   have:=swap_form (x:=b) (b:=a) (c:=c) (d:=d) om (by grind)
   exact⟨_,_,_,_,rfl,h0,q,h2,h3,om,by grind⟩
 |2,_=>
  rw[swl2]
  constructor
  ·rintro⟨a',b',c',d',e,_,_,q,_⟩
   simp only[List.cons.injEq]at e
   obtain⟨_,_,rfl,_⟩:=e
   exact q
  ·intro q
   have:=swap_form (x:=c) (b:=a) (c:=b) (d:=d) om (by grind)
   exact⟨_,_,_,_,rfl,h0,h1,q,h3,om,by grind⟩
 |3,_=>
  rw[swl3]
  constructor
  ·rintro⟨a',b',c',d',e,_,_,_,q,_⟩
   simp only[List.cons.injEq]at e
   obtain⟨_,_,_,rfl,_⟩:=e
   exact q
  ·intro q
   have:=swap_form (x:=d) (b:=a) (c:=b) (d:=c) om (by grind)
   exact⟨_,_,_,_,rfl,h0,h1,h2,q,om,by grind⟩
 |(i+4),h=>omega
theorem swl_length (l:List Int) (i:Nat):(swl l i).length=l.length:=by simp[swl]
theorem rd_nat (l:List Int) (i:Nat):rd l (i:Int)=l.getD i 0:=by simp[rd]
theorem bq_get {a b c d:Int} (h0:bq a) (h1:bq b) (h2:bq c) (h3:bq d) {i:Nat} (hi:i<4):bq (([a,b,c,d]:List Int).getD i 0):=by
 match i,hi with
 |0,_=>exact h0
 |1,_=>exact h1
 |2,_=>exact h2
 |3,_=>exact h3
theorem apSwap_f {l:List Int} (hq:quadB l=true) {i:Nat} (hi:i<4):spec_apSwap.f l (i:Int)=some (swl l i):=by
 obtain⟨a,b,c,d,rfl,h0,h1,h2,h3,h4,h5⟩:=quadB_iff.1 hq
 have hg:=bq_get h0 h1 h2 h3 hi
 unfold bq at h0 h1 h2 h3 hg
 unfold spec_apSwap.f spec_l1Own.f spec_apSum.f
 simp only[Option.bind_some,List.length_nil,List.nil_append,len4,r40,r41,r42,r43,if_pos i04,if_pos i14,if_pos i24,if_pos i34]
 rw[if_pos sm]
 simp only[Option.bind_some,len4]
 rw[if_pos om,if_pos om,rd_nat]
 have hs:([a,b,c,d]:List Int).sum=a+b+c+d:=by simp;omega
 unfold swl
 rw[hs]
 generalize ([a,b,c,d]:List Int).getD i 0=x at*
 rw[wrap_id (x:=a+b) om om,wrap_id (x:=a+b+c) om om,wrap_id (x:=a+b+c+d) om om,wrap_id (x:=a+b+c+d-x) om om,wrap_id (x:=2*(a+b+c+d-x)) om om,wrap_id (x:=2*(a+b+c+d-x)-x) om om]
 simp only[if_pos (show(i:Int)<4 by omega),Int.toNat_natCast]
theorem swapped_ev {l:List Int} (hq:quadB l=true) {i:Nat} (hi:i<4):Ev (fun k=>impl_swapped.f k l (i:Int)) (swl l i):=by
 obtain⟨a,b,c,d,rfl,h0,h1,h2,h3,h4,h5⟩:=quadB_iff.1 hq
 have hg:=bq_get h0 h1 h2 h3 hi
 have hsum:Ev (fun k=>impl_sumOf.f k [a,b,c,d]) (a+b+c+d):=Ev.from 5 (fun k hk=>by
  obtain⟨k,rfl⟩:∃m,k=m+5:=⟨k-5,om⟩
  exact sumOf_l h0 h1 h2 h3 k)
 unfold bq at h0 h1 h2 h3 hg
 unfold impl_swapped.f slices_Clone_int_int.f
 simp only[if_pos (show([a,b,c,d]:List Int).length<17592186044416 by simp),Option.bind_some,len4]
 refine Ev.bind hsum ?_
 rw[if_pos om,if_pos om,rd_nat]
 have hs:([a,b,c,d]:List Int).sum=a+b+c+d:=by simp;omega
 unfold swl
 rw[hs]
 generalize ([a,b,c,d]:List Int).getD i 0=x at*
 rw[wrap_id (x:=a+b+c+d-x) om om,wrap_id (x:=2*(a+b+c+d-x)) om om,wrap_id (x:=2*(a+b+c+d-x)-x) om om]
 simp only[if_pos (show(i:Int)<4 by omega),Int.toNat_natCast]
 exact Ev.now _
def argm (l:List Int):Nat→Nat→Nat→Nat
 |b,_,0=>b
 |b,i,d+1=>if l.getD i 0>l.getD b 0 then argm l i (i+1) d else argm l b (i+1) d
theorem argm_spec (l:List Int) (d:Nat):∀b i,(b<i∨b=0∧i=0)→(∀j,j<i→l.getD j 0≤l.getD b 0)→(∀j,j<b→l.getD j 0<l.getD b 0)→
 (∀j,j<i+d→l.getD j 0≤l.getD (argm l b i d) 0)∧(∀j,j<argm l b i d→l.getD j 0<l.getD (argm l b i d) 0)∧(argm l b i d<i+d∨argm l b i d=b):=by
 induction d with
 |zero=>
  intro b i _ h1 h2
  exact⟨fun j hj=>h1 j om,h2,.inr rfl⟩
 |succ d ih=>
  intro b i hbi h1 h2
  simp only[argm]
  split
  ·rename_i hg
   have h1':∀j,j<i+1→l.getD j 0≤l.getD i 0:=by
    intro j hj
    rcases Nat.lt_or_ge j i with h|h
    ·have:=h1 j h;omega
    ·have:j=i:=om
     subst this
     exact Int.le_refl _
   have h2':∀j,j<i→l.getD j 0<l.getD i 0:=fun j hj=>by have:=h1 j hj;omega
   obtain⟨r1,r2,r3⟩:=ih i (i+1) (.inl om) h1' h2'
   exact⟨fun j hj=>r1 j om,r2,.inl om⟩
  ·rename_i hg
   have h1':∀j,j<i+1→l.getD j 0≤l.getD b 0:=by
    intro j hj
    rcases Nat.lt_or_ge j i with h|h
    ·exact h1 j h
    ·have:j=i:=om
     subst this
     omega
   obtain⟨r1,r2,r3⟩:=ih b (i+1) (.inl om) h1' h2
   exact⟨fun j hj=>r1 j om,r2,om⟩
theorem argm4 (l:List Int):(∀j,j<4→l.getD j 0≤l.getD (argm l 0 0 4) 0)∧(∀j,j<argm l 0 0 4→l.getD j 0<l.getD (argm l 0 0 4) 0)∧argm l 0 0 4<4:=by
 obtain⟨h1,h2,h3⟩:=argm_spec l 4 0 0 (.inr ⟨rfl,rfl⟩) (fun j hj=>by omega) (fun j hj=>by omega)
 exact⟨fun j hj=>h1 j om,h2,om⟩
def sv (l:List Int) (i:Nat):Int:=2*(l.sum-l.getD i 0)-l.getD i 0
theorem swl_get {l:List Int} {i:Nat} (h:i<l.length):(swl l i).getD i 0=sv l i:=by
 unfold swl sv
 simp[List.getD_eq_getElem?_getD,List.getElem?_set_self h]
theorem quad_len {l:List Int} (hq:quadB l=true):l.length=4:=by
 obtain⟨a,b,c,d,rfl,_⟩:=quadB_iff.1 hq
 rfl
def dres (l:List Int) (m:Nat):Int:=if l.getD m 0≤sv l m then -1 else(m:Int)
def dwn (l:List Int):Int:=dres l (argm l 0 0 4)
theorem apDown_l {l:List Int} (hq:quadB l=true) (d:Nat):∀(i b:Nat),i+d=4→b<4→argm l b i d<4→
 Ev (fun k=>spec_apDown.l0 k l (b:Int) l 4 (i:Int)) (dres l (argm l b i d)):=by
 have h4:=quad_len hq
 induction d with
 |zero=>
  intro i b hi hb _
  refine Ev.step (f:=fun _=>some (dres l b)) (fun k=>?_) (Ev.now _)
  simp only[spec_apDown.l0]
  rw[if_neg om,apSwap_f hq hb]
  simp only[Option.bind_some,swl_length,h4]
  rw[if_pos om,if_pos om,if_pos om,rd_nat,rd_nat,swl_get om]
  unfold dres
  by_cases h:l.getD b 0≤sv l b
  ·rw[if_pos h,if_pos h]
  ·rw[if_neg h,if_neg h]
 |succ d ih=>
  intro i b hi hb hm
  simp only[argm]at hm ⊢
  by_cases hg:l.getD i 0>l.getD b 0
  ·rw[if_pos hg]at hm ⊢
   refine Ev.step (f:=fun k=>spec_apDown.l0 k l (i:Int) l 4 ((i+1:Nat):Int)) (fun k=>?_) (ih (i+1) i om om hm)
   simp only[spec_apDown.l0,h4]
   rw[if_pos om,if_pos om,if_pos om,if_pos om,if_pos om,rd_nat,rd_nat,if_pos hg,wrap_id om om,show((i:Int)+1)=((i+1:Nat):Int) by omega]
  ·rw[if_neg hg]at hm ⊢
   refine Ev.step (f:=fun k=>spec_apDown.l0 k l (b:Int) l 4 ((i+1:Nat):Int)) (fun k=>?_) (ih (i+1) b om hb hm)
   simp only[spec_apDown.l0,h4]
   rw[if_pos om,if_pos om,if_pos om,if_pos om,if_pos om,rd_nat,rd_nat,if_neg hg,wrap_id om om,show((i:Int)+1)=((i+1:Nat):Int) by omega]
theorem apDown_ev {l:List Int} (hq:quadB l=true):Ev (fun k=>spec_apDown.f k l) (dwn l):=by
 have h:=apDown_l hq 4 0 0 om om (argm4 l).2.2
 unfold spec_apDown.f
 rw[show(l.length:Int)=4 by have:=quad_len hq;omega]
 exact h
def rootB (l:List Int):Nat→Nat→Bool
 |_,0=>true
 |i,d+1=>decide (l.getD i 0≤sv l i)&&rootB l (i+1) d
theorem isRoot_l {l:List Int} (hq:quadB l=true) (d:Nat):∀(i:Nat),i+d=4→Ev (fun k=>impl_isRoot.l0 k l l 4 (i:Int)) (rootB l i d):=by
 have h4:=quad_len hq
 induction d with
 |zero=>
  intro i hi
  refine Ev.step (f:=fun _=>some true) (fun k=>?_) (Ev.now _)
  simp only[impl_isRoot.l0]
  rw[if_neg om]
 |succ d ih=>
  intro i hi
  have hs:=swapped_ev hq (show i<4 by omega)
  refine Ev.step (f:=fun k=>(impl_swapped.f k l (i:Int)).bind fun t=>(if(i:Int)<(t.length:Int)then(if(rd t (i:Int))<(rd l (i:Int))then(some false)else(impl_isRoot.l0 k l l 4 ((i+1:Nat):Int)))else(none))) (fun k=>?_) ?_
  ·simp only[impl_isRoot.l0,h4]
   rw[if_pos om,if_pos om,if_pos om,wrap_id om om,show((i:Int)+1)=((i+1:Nat):Int) by omega]
  ·refine Ev.bind hs ?_
   simp only[swl_length,h4,rd_nat,if_pos (show(i:Int)<((4:Nat):Int) by omega)]
   rw[swl_get om]
   simp only[rootB]
   by_cases h:l.getD i 0≤sv l i
   ·simp only[if_neg (show¬(sv l i<l.getD i 0) by omega),decide_eq_true h,Bool.true_and]
    exact ih (i+1) om
   ·simp only[if_pos (show sv l i<l.getD i 0 by omega),decide_eq_false h,Bool.false_and]
    exact Ev.now _
theorem isRoot_ev {l:List Int} (hq:quadB l=true):Ev (fun k=>impl_isRoot.f k l) (rootB l 0 4):=by
 unfold impl_isRoot.f
 rw[show(l.length:Int)=4 by have:=quad_len hq;omega]
 exact isRoot_l hq 4 0 om
theorem root_iff (l:List Int):rootB l 0 4=decide (dwn l<0):=by
 obtain⟨h1,h2,h3⟩:=argm4 l
 rw[Bool.eq_iff_iff,decide_eq_true_iff]
 simp only[rootB,Nat.zero_add,Nat.reduceAdd,Bool.and_true,Bool.and_eq_true,decide_eq_true_iff,dwn,dres]
 have a0:=h1 0 om
 have a1:=h1 1 om
 have a2:=h1 2 om
 have a3:=h1 3 om
 generalize argm l 0 0 4=m at*
 unfold sv
 generalize l.sum=S at*
 constructor
 ·rintro⟨q0,q1,q2,q3⟩
  rw[if_pos]
  ·decide
  ·match m,h3 with
   |0,_=>exact q0
   |1,_=>exact q1
   |2,_=>exact q2
   |3,_=>exact q3
 ·intro h
  by_cases hm:l.getD m 0≤2*(S-l.getD m 0)-l.getD m 0
  ·exact⟨om,om,om,om⟩
  ·rw[if_neg hm]at h
   omega
theorem index_l (l:List Int) (v:Int) (m:Nat) (hm:m<l.length) (hl:(l.length:Int)≤9223372036854775806) (hv:l.getD m 0=v) (hf:∀j,j<m→l.getD j 0<v) (d:Nat):∀i,i+d=m→Ev (fun k=>slices_Index_int_int.l0 k l v (l.length:Int) (i:Int)) (m:Int):=by
 induction d with
 |zero=>
  intro i hi
  obtain rfl:i=m:=om
  refine Ev.step (f:=fun _=>some (i:Int)) (fun k=>?_) (Ev.now _)
  simp only[slices_Index_int_int.l0]
  rw[if_pos om,if_pos om,if_pos om,rd_nat,if_pos hv.symm]
 |succ d ih=>
  intro i hi
  have:=hf i om
  refine Ev.step (f:=fun k=>slices_Index_int_int.l0 k l v (l.length:Int) ((i+1:Nat):Int)) (fun k=>?_) (ih (i+1) om)
  simp only[slices_Index_int_int.l0]
  rw[if_pos om,if_pos om,if_pos om,rd_nat,if_neg om,wrap_id om om,show((i:Int)+1)=((i+1:Nat):Int) by omega]
theorem max4 (a b c d:Int):([b,c,d].foldl max a)=[a,b,c,d].getD (argm [a,b,c,d] 0 0 4) 0:=by
 obtain⟨h1,h2,h3⟩:=argm4 [a,b,c,d]
 have a0:=h1 0 om
 have a1:=h1 1 om
 have a2:=h1 2 om
 have a3:=h1 3 om
 generalize argm [a,b,c,d] 0 0 4=m at*
 have e0:[a,b,c,d].getD 0 0=a:=rfl
 have e1:[a,b,c,d].getD 1 0=b:=rfl
 have e2:[a,b,c,d].getD 2 0=c:=rfl
 have e3:[a,b,c,d].getD 3 0=d:=rfl
 rw[e0]at a0
 rw[e1]at a1
 rw[e2]at a2
 rw[e3]at a3
 have hm:[a,b,c,d].getD m 0=a∨[a,b,c,d].getD m 0=b∨[a,b,c,d].getD m 0=c∨[a,b,c,d].getD m 0=d:=by
  match m,h3 with
  |0,_=>exact .inl rfl
  |1,_=>exact .inr (.inl rfl)
  |2,_=>exact .inr (.inr (.inl rfl))
  |3,_=>exact .inr (.inr (.inr rfl))
 simp only[List.foldl_cons,List.foldl_nil]
 generalize [a,b,c,d].getD m 0=v at*
 simp only[Int.max_def]
 repeat' split
 all_goals omega
theorem greatest_ev {l:List Int} (hq:quadB l=true):Ev (fun k=>impl_greatest.f k l) ((argm l 0 0 4:Nat):Int):=by
 obtain⟨h1,h2,h3⟩:=argm4 l
 have h4:=quad_len hq
 obtain⟨a,b,c,d,rfl,_⟩:=quadB_iff.1 hq
 unfold impl_greatest.f slices_Max_int_int.f
 simp only[Option.bind_some]
 rw[max4]
 refine Ev.bind ?_ (Ev.now _)
 unfold slices_Index_int_int.f
 exact index_l [a,b,c,d] _ _ (by simpa using h3) sm rfl h2 (argm [a,b,c,d] 0 0 4) 0 om
theorem u64w (x:Int):0≤IntKind.u64.wrap x∧IntKind.u64.wrap x<18446744073709551616:=by
 rw[IntKind.wrap_u64]
 omega
theorem and255 (X:Int) (h0:0≤X) (h1:X<18446744073709551616):0≤Go.bits .and .u64 X 255∧Go.bits .and .u64 X 255≤255:=by
 rw[u64_and X 255 h0 h1 om om]
 have:X.toNat&&& (255:Int).toNat≤(255:Int).toNat:=Nat.and_le_right
 omega
def Bytes (s:List Int):Prop:=∀x∈s,0≤x∧x≤255
theorem next_ok {s:List Int} (hs:Bytes s) {a:Int} (z:Int) (h0:0≤a) (h1:a≤1000000000):∃x z',spec_l1Cur_next.f s a z=some (x,a+1,z')∧0≤x∧x≤255:=by
 unfold spec_l1Cur_next.f
 rw[wrap_id (x:=a+1) om om]
 have hb:∀y,0≤wrap64 (Go.bits .and .u64 (IntKind.u64.wrap y/1099511627776) 255)∧wrap64 (Go.bits .and .u64 (IntKind.u64.wrap y/1099511627776) 255)≤255:=by
  intro y
  have h:=u64w y
  have:=and255 (IntKind.u64.wrap y/1099511627776) om om
  rw[wrap_id om om]
  exact this
 by_cases c:a<s.length
 ·have hr:0≤rd s a∧rd s a≤255:=by
   obtain⟨i,rfl⟩:∃i:Nat,a=i:=⟨a.toNat,om⟩
   rw[rdi_at om]
   exact hs _ (List.getElem_mem _)
  rw[wrap_id (x:=rd s a) om om,if_pos c,if_pos h0]
  by_cases e:a+1≤s.length
  ·rw[if_pos e];exact⟨_,_,rfl,hr⟩
  ·rw[if_neg e];exact⟨_,_,rfl,hb _⟩
 ·rw[if_neg c]
  by_cases e:a+1≤s.length
  ·rw[if_pos e];exact⟨_,_,rfl,om,om⟩
  ·rw[if_neg e];exact⟨_,_,rfl,hb _⟩
theorem pick_ok {s:List Int} (hs:Bytes s) {a:Int} (z:Int) (h0:0≤a) (h1:a≤1000000000) {n:Int} (hn:n≤200):∃x a' z',spec_l1Cur_pick.f s a z n=some (x,a',z')∧0≤x∧(1≤n→x<n)∧a≤a'∧a'≤a+1:=by
 unfold spec_l1Cur_pick.f
 by_cases c:n≤1
 ·rw[if_pos c];exact⟨_,_,_,rfl,om,om,om,om⟩
 ·obtain⟨x,z',hx,x0,x1⟩:=next_ok hs z h0 h1
  rw[if_neg c,hx]
  simp only[Option.bind_some]
  rw[if_neg om,if_neg om,Int.tmod_eq_emod_of_nonneg x0]
  exact⟨_,_,_,rfl,Int.emod_nonneg _ om,fun _=>Int.emod_lt_of_pos _ om,om,om⟩
theorem among_ok {s:List Int} (hs:Bytes s) {a:Int} (z:Int) (h0:0≤a) (h1:a≤1000000000) {l:List Int} (hl:0<l.length) (h2:l.length≤200):∃v a' z',spec_l1Cur_among.f s a z l=some (v,a',z')∧v∈l∧a≤a'∧a'≤a+1:=by
 obtain⟨x,a',z',hp,x0,xn,a0,a1⟩:=pick_ok hs z h0 h1 (n:=(l.length:Int)) om
 have:=xn om
 obtain⟨i,rfl⟩:∃i:Nat,x=i:=⟨x.toNat,om⟩
 refine⟨l[i]'om,a',z',?_,List.getElem_mem _,a0,a1⟩
 unfold spec_l1Cur_among.f
 rw[hp]
 simp only[Option.bind_some]
 rw[if_pos om,if_pos om,rdi_at om]
theorem one_ok {s:List Int} (hs:Bytes s) {a:Int} (z:Int) (h0:0≤a) (h1:a≤1000000000) {n:Int} (hn:n≤200):∃b a' z',spec_l1Cur_one.f s a z n=some (b,a',z')∧a≤a'∧a'≤a+1:=by
 obtain⟨x,a',z',hp,x0,xn,a0,a1⟩:=pick_ok hs z h0 h1 hn
 refine⟨(x==0),a',z',?_,a0,a1⟩
 unfold spec_l1Cur_one.f
 rw[hp]
 rfl
def shS (a b c d x y:Int):S37:=⟨a+2*(c*x+d*y)+b*(x*x+y*y),b,c+b*x,d+b*y⟩
def shiftR (a b c d x y:Int):Int × Int × Int × Int × Bool:=if isC ⟨a,b,c,d⟩=true∧inB (-1000) 1000 x=true∧inB (-1000) 1000 y=true∧isC (shS a b c d x y)=true then((shS a b c d x y).f0,(shS a b c d x y).f1,(shS a b c d x y).f2,(shS a b c d x y).f3,true)else(0,0,0,0,false)
theorem shift_spec (a b c d x y:Int):Ev (fun k=>spec_ShiftCircle.f k a b c d x y) (shiftR a b c d x y):=by
 unfold spec_ShiftCircle.f
 simp only[l1In_f,Option.bind_some]
 by_cases h:isC ⟨a,b,c,d⟩=true
 ·have hg:=ciGood_ev a b c d
  rw[h]at hg
  by_cases hx:inB (-1000) 1000 x=true
  ·simp only[if_pos hx]
   by_cases hy:inB (-1000) 1000 y=true
   ·simp only[if_pos hy]
    have hh:=h
    have hx':=hx
    have hy':=hy
    rw[isC_iff]at h
    obtain⟨⟨h0,h1,h2,h3⟩,he⟩:=h
    rw[inB_iff]at hx hy
    simp only[bnd]at h0 h1 h2 h3
    have b1:=sqb (A:=1000000) (B:=1000) om h2.2 om hx.2
    have b2:=sqb (A:=1000000) (B:=1000) om h3.2 om hy.2
    have b3:=sqb (A:=1000) (B:=1000) om hx.2 om hx.2
    have b4:=sqb (A:=1000) (B:=1000) om hy.2 om hy.2
    have b5:=sqb (A:=1000000) (B:=1000) om h1.2 om hx.2
    have b6:=sqb (A:=1000000) (B:=1000) om h1.2 om hy.2
    have b7:=sqb (a:=b) (b:=x*x+y*y) (A:=1000000) (B:=2000000) om h1.2 om om
    rw[wrap_id (x:=c*x) om om,wrap_id (x:=d*y) om om,wrap_id (x:=x*x) om om,wrap_id (x:=y*y) om om,wrap_id (x:=b*x) om om,wrap_id (x:=b*y) om om,wrap_id (x:=x*x+y*y) om om,wrap_id (x:=b*(x*x+y*y)) om om,wrap_id (x:=c*x+d*y) om om,wrap_id (x:=2*(c*x+d*y)) om om,wrap_id (x:=a+2*(c*x+d*y)) om om,wrap_id (x:=a+2*(c*x+d*y)+b*(x*x+y*y)) om om,wrap_id (x:=c+b*x) om om,wrap_id (x:=d+b*y) om om]
    have e:shiftR a b c d x y=if isC ⟨a+2*(c*x+d*y)+b*(x*x+y*y),b,c+b*x,d+b*y⟩=true then(a+2*(c*x+d*y)+b*(x*x+y*y),b,c+b*x,d+b*y,true)else(0,0,0,0,false):=by
     unfold shiftR
     by_cases hs:isC (shS a b c d x y)=true
     ·rw[if_pos ⟨hh,hx',hy',hs⟩,if_pos (show isC ⟨a+2*(c*x+d*y)+b*(x*x+y*y),b,c+b*x,d+b*y⟩=true from hs)]
      rfl
     ·rw[if_neg (fun z=>hs z.2.2.2),if_neg (show¬isC ⟨a+2*(c*x+d*y)+b*(x*x+y*y),b,c+b*x,d+b*y⟩=true from hs)]
    rw[e]
    refine Ev.bind hg ?_
    simp only[if_true]
    exact Ev.bind (ciIf_ev _ _ _ _) (Ev.now _)
   ·simp only[if_neg hy]
    have e:shiftR a b c d x y=(0,0,0,0,false):=if_neg (fun z=>hy z.2.2.1)
    rw[e]
    exact Ev.bind hg (by simp only[if_true];exact Ev.now _)
  ·simp only[if_neg hx]
   have e:shiftR a b c d x y=(0,0,0,0,false):=if_neg (fun z=>hx z.2.1)
   rw[e]
   exact Ev.bind hg (by simp only[if_true];exact Ev.now _)
 ·have hg:=ciGood_ev a b c d
  have e:shiftR a b c d x y=(0,0,0,0,false):=if_neg (fun z=>h z.1)
  rw[e]
  exact Ev.bind hg (by simp only[if_neg h];exact Ev.now _)
theorem conf_j2 {s:List Int} (hs:Bytes s) (q:List S37) (hq:q.length≤4) {a:Int} (z:Int) (h0:0≤a) (h1:a≤1000000):∃r a' z',Ev (fun k=>spec_l1Cur_config.j2 k q s a z) (r,a',z')∧r.length≤5∧a≤a'∧a'≤a+4:=by
 obtain⟨x,a1,z1,hp,x0,xn,p0,p1⟩:=pick_ok hs z h0 om (n:=20) om
 by_cases c0:x=0
 ·by_cases cl:(q.length:Int)>0
  ·obtain⟨i,a2,z2,hp2,i0,iN,p2,p3⟩:=pick_ok hs (a:=a1) z1 om om (n:=(q.length:Int)) om
   obtain⟨y,a3,z3,hp3,y0,yN,p4,p5⟩:=pick_ok hs (a:=a2) z2 om om (n:=3) om
   obtain⟨v,a4,z4,hp4,v0,vN,p6,p7⟩:=pick_ok hs (a:=a3) z3 om om (n:=3) om
   have:=iN om
   refine⟨_,a4,z4,Ev.step (f:=fun _=>some (q.set (i:Int).toNat (⟨y,wrap64 (v-1),1,0⟩:S37),a4,z4)) (fun k=>?_) (Ev.now _),by simp;omega,om,om⟩
   rw[spec_l1Cur_config.j2,hp]
   simp only[Option.bind_some]
   rw[if_pos c0,if_pos cl,hp2]
   simp only[Option.bind_some]
   rw[hp3]
   simp only[Option.bind_some]
   rw[hp4]
   simp only[Option.bind_some]
   rw[if_pos i0,if_pos this]
  ·refine⟨q,a1,z1,Ev.step (f:=fun _=>some (q,a1,z1)) (fun k=>?_) (Ev.now _),om,om,om⟩
   rw[spec_l1Cur_config.j2,hp]
   simp only[Option.bind_some]
   rw[if_pos c0,if_neg cl]
 ·by_cases c1:x=1
  ·refine⟨_,a1,z1,Ev.step (f:=fun _=>some (q++[(⟨0,0,0,1⟩:S37)],a1,z1)) (fun k=>?_) (Ev.now _),by simp;omega,om,om⟩
   rw[spec_l1Cur_config.j2,hp]
   simp only[Option.bind_some]
   rw[if_neg c0,if_pos c1,if_pos om]
  ·by_cases c2:x=2
   ·refine⟨[],a1,z1,Ev.step (f:=fun _=>some ([],a1,z1)) (fun k=>?_) (Ev.now _),by simp,om,om⟩
    rw[spec_l1Cur_config.j2,hp]
    simp only[Option.bind_some]
    rw[if_neg c0,if_neg c1,if_pos c2]
   ·refine⟨q,a1,z1,Ev.step (f:=fun _=>some (q,a1,z1)) (fun k=>?_) (Ev.now _),om,om,om⟩
    rw[spec_l1Cur_config.j2,hp]
    simp only[Option.bind_some]
    rw[if_neg c0,if_neg c1,if_neg c2]
theorem conf_l1 {s:List Int} (hs:Bytes s) (q:List S37) (hq:q.length≤4) (x y:Int) {a:Int} (z:Int) (h0:0≤a) (h1:a≤1000000) (d:Nat):∀(i:Nat) (o:List S37),i+d=q.length→o.length≤i→∃r a' z',Ev (fun k=>spec_l1Cur_config.l1 k o x y q (q.length:Int) (i:Int) s a z) (r,a',z')∧r.length≤5∧a≤a'∧a'≤a+4:=by
 induction d with
 |zero=>
  intro i o hi ho
  obtain⟨r,a',z',he,hr,p0,p1⟩:=conf_j2 hs o om z h0 h1
  exact⟨r,a',z',Ev.step (fun k=>by rw[spec_l1Cur_config.l1,if_neg om]) he,hr,p0,p1⟩
 |succ d ih=>
  intro i o hi ho
  have hil:i<q.length:=om
  have hsh:=shift_spec q[i].f0 q[i].f1 q[i].f2 q[i].f3 x y
  have hst:∀k,spec_l1Cur_config.l1 (k+1) o x y q (q.length:Int) (i:Int) s a z=(spec_ShiftCircle.f k q[i].f0 q[i].f1 q[i].f2 q[i].f3 x y).bind fun bt=>(if bt.2.2.2.2=true then(if o.length<4398046511104 then(spec_l1Cur_config.l1 k (o++[(⟨bt.1,bt.2.1,bt.2.2.1,bt.2.2.2.1⟩:S37)]) x y q (q.length:Int) ((i+1:Nat):Int) s a z)else none)else(spec_l1Cur_config.l1 k o x y q (q.length:Int) ((i+1:Nat):Int) s a z)):=by
   intro k
   rw[spec_l1Cur_config.l1,if_pos om,if_pos om,if_pos om,rdC_at hil,wrap_id om om]
   rfl
  generalize shiftR q[i].f0 q[i].f1 q[i].f2 q[i].f3 x y=R at hsh
  by_cases hR:R.2.2.2.2=true
  ·obtain⟨r,a',z',he,hr,p0,p1⟩:=ih (i+1) (o++[(⟨R.1,R.2.1,R.2.2.1,R.2.2.2.1⟩:S37)]) om (by simp;omega)
   refine⟨r,a',z',Ev.step hst (Ev.bind hsh ?_),hr,p0,p1⟩
   simp only[if_pos hR,if_pos (show o.length<4398046511104 by omega)]
   exact he
  ·obtain⟨r,a',z',he,hr,p0,p1⟩:=ih (i+1) o om om
   refine⟨r,a',z',Ev.step hst (Ev.bind hsh ?_),hr,p0,p1⟩
   simp only[if_neg hR]
   exact he
def bd (b:Nat) (x:S37):Prop:=(-(b:Int)≤x.f0∧x.f0≤b)∧(-(b:Int)≤x.f1∧x.f1≤b)∧(-(b:Int)≤x.f2∧x.f2≤b)∧(-(b:Int)≤x.f3∧x.f3≤b)
theorem bd_bnd {b:Nat} (hb:b≤1000000) {x:S37} (h:bd b x):bndC x:=by
 unfold bd at h
 unfold bndC bnd
 omega
theorem four38 {l:List S37} (h:l.length=4):∃a b c d,l=[a,b,c,d]:=by
 match l,h with
 |[a,b,c,d],_=>exact⟨a,b,c,d,rfl⟩
theorem bd_mix {b:Nat} {x y z w:S37} (hx:bd b x) (hy:bd b y) (hz:bd b z) (hw:bd b w):bd (7*b) (mix x y z w):=by
 unfold bd mix at*
 simp only
 omega
theorem bd_up {b:Nat} {x:S37} (h:bd b x):bd (7*b) x:=by
 unfold bd at*
 omega
theorem swc_bd {b:Nat} {q:List S37} (hq:q.length=4) (h:∀x∈q,bd b x) {i:Nat} (hi:i<4):∀x∈swc q i,bd (7*b) x:=by
 obtain⟨a0,a1,a2,a3,rfl⟩:=four38 hq
 have h0:=h a0 sm
 have h1:=h a1 sm
 have h2:=h a2 sm
 have h3:=h a3 sm
 intro x hx
 unfold swc at hx
 have:=List.mem_or_eq_of_mem_set hx
 rcases this with hm|rfl
 ·exact bd_up (h x hm)
 ·obtain rfl|rfl|rfl|rfl:i=0∨i=1∨i=2∨i=3:=om
  ·rw[nc0];exact bd_mix h0 h1 h2 h3
  ·rw[nc1];exact bd_mix h1 h0 h2 h3
  ·rw[nc2];exact bd_mix h2 h0 h1 h3
  ·rw[nc3];exact bd_mix h3 h0 h1 h2
theorem conf_l0 {s:List Int} (hs:Bytes s) (n:Nat):∀(q:List S37) (b:Nat) (a z:Int),q.length=4→(∀x∈q,bd b x)→b*7^n≤1000000→n≤100→0≤a→a+n≤100000→∃r a' z',Ev (fun k=>spec_l1Cur_config.l0 k q (n:Int) s a z) (r,a',z')∧r.length≤5∧a≤a'∧a'≤a+n+10:=by
 induction n with
 |zero=>
  intro q b a z hq hb hB _ h0 h1
  obtain⟨t,a1,z1,hp,p0,p1⟩:=one_ok hs z h0 om (n:=3) om
  by_cases ht:t=true
  ·obtain⟨x,a2,z2,hp2,x0,xN,p2,p3⟩:=pick_ok hs (a:=a1) z1 om om (n:=5) om
   obtain⟨y,a3,z3,hp3,y0,yN,p4,p5⟩:=pick_ok hs (a:=a2) z2 om om (n:=5) om
   obtain⟨r,a4,z4,he,hr,p6,p7⟩:=conf_l1 hs q om (wrap64 (x-2)) (wrap64 (y-2)) (a:=a3) z3 om om q.length 0 [] om sm
   refine⟨r,a4,z4,Ev.step (fun k=>?_) he,hr,om,om⟩
   rw[spec_l1Cur_config.l0,if_neg om,hp]
   simp only[Option.bind_some]
   rw[if_pos ht,hp2]
   simp only[Option.bind_some]
   rw[hp3]
   rfl
  ·obtain⟨r,a4,z4,he,hr,p6,p7⟩:=conf_j2 hs q om (a:=a1) z1 om om
   refine⟨r,a4,z4,Ev.step (fun k=>?_) he,hr,om,om⟩
   rw[spec_l1Cur_config.l0,if_neg om,hp]
   simp only[Option.bind_some]
   rw[if_neg ht]
 |succ n ih=>
  intro q b a z hq hb hB hn h0 h1
  have hB':7*b*7^n≤1000000:=by
   rw[Nat.pow_succ]at hB
   rw[Nat.mul_comm 7 b,Nat.mul_assoc,Nat.mul_comm 7]
   exact hB
  have hb6:b≤1000000:=by
   have:0<7^n:=by first|exact Nat.pow_pos om|exact Nat.pos_pow_of_pos n om|exact Nat.pos_of_ne_zero sm
   have:=Nat.le_mul_of_pos_right (7*b) this
   omega
  obtain⟨x,a1,z1,hp,x0,xN,p0,p1⟩:=pick_ok hs z h0 om (n:=4) om
  have:=xN om
  obtain⟨i,rfl⟩:∃i:Nat,x=i:=⟨x.toNat,om⟩
  have hsw:=ciSwap_ev q hq (fun y hy=>bd_bnd hb6 (hb y hy)) (i:=i) om
  obtain⟨r,a2,z2,he,hr,p2,p3⟩:=ih (swc q i) (7*b) a1 z1 (by rw[swc_length];exact hq) (swc_bd hq hb om) hB' om om om
  refine⟨r,a2,z2,Ev.step (f:=fun k=>(spec_ciSwap.f k q (i:Int)).bind fun t=>spec_l1Cur_config.l0 k t (n:Int) s a1 z1) (fun k=>?_) (Ev.bind hsw he),hr,om,om⟩
  rw[spec_l1Cur_config.l0,if_pos om,hp]
  simp only[Option.bind_some]
  rw[wrap_id om om,show((n+1:Nat):Int)-1=(n:Int) by omega]
theorem config_ok {s:List Int} (hs:Bytes s) {a:Int} (z:Int) (h0:0≤a) (h1:a≤10000):∃r a' z',Ev (fun k=>spec_l1Cur_config.f k s a z) (r,a',z')∧r.length≤5∧a≤a'∧a'≤a+20:=by
 obtain⟨x,a1,z1,hp,x0,xN,p0,p1⟩:=pick_ok hs z h0 om (n:=2) om
 have:=xN om
 obtain⟨v,a2,z2,hp2,hv,p2,p3⟩:=among_ok hs (a:=a1) z1 om om (l:=[0,0,1,2,3,5]) sm sm
 have hv':0≤v∧v≤5:=by
  simp only[List.mem_cons,List.not_mem_nil,or_false]at hv
  omega
 obtain⟨n,rfl⟩:∃n:Nat,v=n:=⟨v.toNat,om⟩
 obtain⟨q,t,hst,hq4,hqb⟩:∃q t,spec_StartConfig.f x=some (q,t)∧q.length=4∧∀y∈q,bd 4 y:=by
  unfold spec_StartConfig.f
  by_cases c0:x=0
  ·rw[if_pos c0]
   refine⟨_,_,rfl,rfl,?_⟩
   intro y hy
   simp only[List.mem_cons,List.not_mem_nil,or_false]at hy
   unfold bd
   rcases hy with rfl|rfl|rfl|rfl<;>simp
  ·rw[if_neg c0,if_pos (show x=1 by omega)]
   refine⟨_,_,rfl,rfl,?_⟩
   intro y hy
   simp only[List.mem_cons,List.not_mem_nil,or_false]at hy
   unfold bd
   rcases hy with rfl|rfl|rfl|rfl<;>simp
 have h7:4*7^n≤1000000:=by
  have:=Nat.pow_le_pow_right (show 0<7 by omega) (show n≤5 by omega)
  omega
 obtain⟨r,a3,z3,he,hr,p4,p5⟩:=conf_l0 hs n q 4 a2 z2 hq4 hqb h7 om om om
 refine⟨r,a3,z3,?_,hr,om,om⟩
 unfold spec_l1Cur_config.f
 rw[hp]
 simp only[Option.bind_some]
 rw[hst]
 simp only[Option.bind_some]
 rw[hp2]
 exact he
def tpR (x y:S37):Int × Bool:=if isC x=true∧isC y=true then(twi x y,true)else(0,false)
theorem arec (x y:S37):impl_areCircles.f [x,y]=some (isC x&&isC y):=by
 unfold impl_areCircles.f
 simp only[List.all_cons,List.all_nil,Bool.and_true]
theorem tpI (x y:S37):impl_TwiceProduct.f x.f0 x.f1 x.f2 x.f3 y.f0 y.f1 y.f2 y.f3=some (tpR x y):=by
 unfold impl_TwiceProduct.f tpR
 rw[arec]
 simp only[Option.bind_some]
 by_cases hx:isC x=true
 ·by_cases hy:isC y=true
  ·rw[if_pos (by rw[hx,hy];rfl),if_pos ⟨hx,hy⟩,twice_f (isC_bnd hx) (isC_bnd hy)]
   rfl
  ·rw[if_neg (by rw[Bool.and_eq_true];exact fun h=>hy h.2),if_neg (fun h=>hy h.2)]
 ·rw[if_neg (by rw[Bool.and_eq_true];exact fun h=>hx h.1),if_neg (fun h=>hx h.1)]
def dtR (x y:S37):Bool × Bool:=if isC x=true∧isC y=true then((twi x y==(-2)),true)else(false,false)
theorem dtI (x y:S37):impl_DoTouch.f x.f0 x.f1 x.f2 x.f3 y.f0 y.f1 y.f2 y.f3=some (dtR x y):=by
 unfold impl_DoTouch.f dtR
 rw[arec]
 simp only[Option.bind_some]
 by_cases hx:isC x=true
 ·by_cases hy:isC y=true
  ·rw[if_pos (by rw[hx,hy];rfl),if_pos ⟨hx,hy⟩,twice_f (isC_bnd hx) (isC_bnd hy)]
   rfl
  ·rw[if_neg (by rw[Bool.and_eq_true];exact fun h=>hy h.2),if_neg (fun h=>hy h.2)]
 ·rw[if_neg (by rw[Bool.and_eq_true];exact fun h=>hx h.1),if_neg (fun h=>hx h.1)]
theorem dSame_l (l:List Int) (hl:(l.length:Int)≤9223372036854775806) (d:Nat):∀i,i+d=l.length→Ev (fun k=>laws_dSame.l0 k l l (l.length:Int) (i:Int)) true:=by
 induction d with
 |zero=>
  intro i hi
  exact Ev.step (fun k=>by rw[laws_dSame.l0,if_neg om]) (Ev.now _)
 |succ d ih=>
  intro i hi
  refine Ev.step (fun k=>?_) (ih (i+1) om)
  rw[laws_dSame.l0,if_pos om,if_pos om,if_pos om,if_pos om,if_pos rfl,wrap_id om om]
  rfl
theorem dSame_ev (l:List Int) (hl:(l.length:Int)≤9223372036854775806):Ev (fun k=>laws_dSame.f k l l) true:=by
 unfold laws_dSame.f
 simp only[if_true]
 exact dSame_l l hl l.length 0 om
theorem dCircles_l (l:List S37) (hl:(l.length:Int)≤9223372036854775806) (d:Nat):∀i,i+d=l.length→Ev (fun k=>laws_dCircles.l0 k l l (l.length:Int) (i:Int)) true:=by
 induction d with
 |zero=>
  intro i hi
  exact Ev.step (fun k=>by rw[laws_dCircles.l0,if_neg om]) (Ev.now _)
 |succ d ih=>
  intro i hi
  refine Ev.step (fun k=>?_) (ih (i+1) om)
  rw[laws_dCircles.l0,if_pos om,if_pos om,if_pos om,if_pos om,if_neg sm,wrap_id om om]
  rfl
theorem dCircles_ev (l:List S37) (hl:(l.length:Int)≤9223372036854775806):Ev (fun k=>laws_dCircles.f k l l) true:=by
 unfold laws_dCircles.f
 simp only[if_true]
 exact dCircles_l l hl l.length 0 om
theorem mix_mix (x y z w:S37):mix (mix x y z w) y z w=x:=by
 cases x
 unfold mix
 simp only[S37.mk.injEq]
 omega
theorem curv_swc {l:List S37} (h4:l.length=4) {i:Nat} (hi:i<4):(swc l i).map S37.f1=swl (l.map S37.f1) i:=by
 obtain⟨a,b,c,d,rfl⟩:=four38 h4
 obtain rfl|rfl|rfl|rfl:i=0∨i=1∨i=2∨i=3:=om
 ·unfold swc;rw[nc0,show List.map S37.f1 [a,b,c,d]=[a.f1,b.f1,c.f1,d.f1]from rfl,swl0];rfl
 ·unfold swc;rw[nc1,show List.map S37.f1 [a,b,c,d]=[a.f1,b.f1,c.f1,d.f1]from rfl,swl1];rfl
 ·unfold swc;rw[nc2,show List.map S37.f1 [a,b,c,d]=[a.f1,b.f1,c.f1,d.f1]from rfl,swl2];rfl
 ·unfold swc;rw[nc3,show List.map S37.f1 [a,b,c,d]=[a.f1,b.f1,c.f1,d.f1]from rfl,swl3];rfl
def curR (l:List S37):List Int × Bool:=if cfgB l=true then(l.map S37.f1,true)else([],false)
theorem curI (l:List S37):Ev (fun k=>impl_CurvaturesOf.f k l) (curR l):=by
 have e3:=isConfig_ev l
 unfold impl_CurvaturesOf.f curR
 by_cases h:cfgB l=true
 ·have e5:=curvI_l l (by rw[cfg_len h];omega) l.length 0 [] om sm
  simp only[List.drop_zero,List.nil_append]at e5
  rw[if_pos h]
  refine Ev.bind e3 ?_
  simp only[if_pos h]
  exact Ev.bind e5 (Ev.now _)
 ·rw[if_neg h]
  refine Ev.bind e3 ?_
  simp only[if_neg h]
  exact Ev.now _
theorem cur_of {l:List S37} (h:cfgB l=true):curR l=(l.map S37.f1,true):=if_pos h
theorem low_core {a b c d:Int} (ha:bq a) (hb:bq b) (hc:bq c) (hs:a+b+c+d>0) (hf:2*(a*a+b*b+c*c+d*d)=(a+b+c+d)*(a+b+c+d)): -100000≤d:=by
 unfold bq at ha hb hc
 refine Int.not_lt.1 (fun hd=>?_)
 have e:(c-a-b-d)*(c-a-b-d)=4*(a*b+a*d+b*d):=by grind
 have e2:(-d-a)*(-d-b)=a*b+a*d+b*d+d*d:=by grind
 have p:=sq_nn (c-a-b-d)
 have q:(-d-a)*(-d-b)≥d*d:=om
 have hx:0< -d-a:=om
 have hy:0< -d-b:=om
 have hz:0< -d-c:=om
 have hsum:(-d-a)+(-d-b)<2*(-d):=om
 have h4:=sq_nn ((-d-a)-(-d-b))
 have e3:((-d-a)+(-d-b))*((-d-a)+(-d-b))=((-d-a)-(-d-b))*((-d-a)-(-d-b))+4*((-d-a)*(-d-b)):=by grind
 have h5:((-d-a)+(-d-b))*((-d-a)+(-d-b))≥4*(d*d):=om
 generalize hX:(-d-a)+(-d-b)=X at*
 have h6:0<X:=om
 have h7:X*X<(2* -d)*(2* -d):=by
  have m1:=Int.mul_lt_mul_of_pos_left hsum h6
  have m2:=Int.mul_lt_mul_of_pos_right hsum (show 0<2* -d by omega)
  omega
 have e4:(2* -d)*(2* -d)=4*(d*d):=by grind
 omega
theorem sv_low {l:List Int} (hq:quadB l=true) {i:Nat} (hi:i<4) (hlt:sv l i<l.getD i 0):quadB (swl l i)=true:=by
 rw[quad_swl hq hi,swl_get (by rw[quad_len hq];exact hi),inB_iff]
 obtain⟨a,b,c,d,rfl,ha,hb,hc,hd,hs,hf⟩:=quadB_iff.1 hq
 have za:=ha
 have zb:=hb
 have zc:=hc
 have zd:=hd
 unfold bq at za zb zc zd
 match i,hi with
 |0,_=>
  have:=swap_form (x:=a) (b:=b) (c:=c) (d:=d) om (by grind)
  have hl:=low_core (a:=b) (b:=c) (c:=d) (d:=2*(b+c+d)-a) hb hc hd om (by grind)
  simp only[sv,List.getD_cons_zero,List.sum_cons,List.sum_nil]at hlt ⊢
  omega
 |1,_=>
  have:=swap_form (x:=b) (b:=a) (c:=c) (d:=d) om (by grind)
  have hl:=low_core (a:=a) (b:=c) (c:=d) (d:=2*(a+c+d)-b) ha hc hd om (by grind)
  simp only[sv,List.getD_cons_zero,List.getD_cons_succ,List.sum_cons,List.sum_nil]at hlt ⊢
  omega
 |2,_=>
  have:=swap_form (x:=c) (b:=a) (c:=b) (d:=d) om (by grind)
  have hl:=low_core (a:=a) (b:=b) (c:=d) (d:=2*(a+b+d)-c) ha hb hd om (by grind)
  simp only[sv,List.getD_cons_zero,List.getD_cons_succ,List.sum_cons,List.sum_nil]at hlt ⊢
  omega
 |3,_=>
  have:=swap_form (x:=d) (b:=a) (c:=b) (d:=c) om (by grind)
  have hl:=low_core (a:=a) (b:=b) (c:=c) (d:=2*(a+b+c)-d) ha hb hc om (by grind)
  simp only[sv,List.getD_cons_zero,List.getD_cons_succ,List.sum_cons,List.sum_nil]at hlt ⊢
  omega
 |(i+4),h=>omega
theorem dwn_pos {l:List Int} (h:0≤dwn l):dwn l=((argm l 0 0 4:Nat):Int)∧sv l (argm l 0 0 4)<l.getD (argm l 0 0 4) 0:=by
 unfold dwn dres at h ⊢
 by_cases hc:l.getD (argm l 0 0 4) 0≤sv l (argm l 0 0 4)
 ·rw[if_pos hc]at h
  omega
 ·rw[if_neg hc]
  exact⟨rfl,om⟩
def nxt (l:List Int):List Int:=swl l (argm l 0 0 4)
theorem nxt_quad {l:List Int} (hq:quadB l=true) (h:0≤dwn l):quadB (nxt l)=true:=sv_low hq (argm4 l).2.2 (dwn_pos h).2
def runD:Nat→List Int→List (List Int)
 |0,_=>[]
 |n+1,q=>if 0≤dwn q then nxt q::runD n (nxt q)else[]
def wrdD:Nat→List Int→List Int
 |0,_=>[]
 |n+1,q=>if 0≤dwn q then dwn q::wrdD n (nxt q)else[]
theorem runD_len (n:Nat):∀q,(runD n q).length≤n:=by
 induction n with
 |zero=>intro q;simp[runD]
 |succ n ih=>
  intro q
  simp only[runD]
  split
  ·simp only[List.length_cons];have:=ih (nxt q);omega
  ·simp
theorem runD_quads (n:Nat):∀q,quadB q=true→∀x∈runD n q,quadB x=true:=by
 induction n with
 |zero=>intro q _ x hx;simp[runD]at hx
 |succ n ih=>
  intro q hq x hx
  simp only[runD]at hx
  split at hx
  ·rename_i h
   rcases List.mem_cons.1 hx with rfl|hx
   ·exact nxt_quad hq h
   ·exact ih _ (nxt_quad hq h) x hx
  ·simp at hx
theorem l1Own_f (l:List Int) (h:l.length<17592186044416):spec_l1Own.f l=some l:=by
 unfold spec_l1Own.f
 simp[h]
def pathR (q:List Int):List (List Int)× Bool:=if quadB q=true∧(runD 200 q).length<200 then(q::runD 200 q,true)else([],false)
theorem pathR_len (q:List Int):(pathR q).1.length≤201:=by
 unfold pathR
 split
 ·have:=runD_len 200 q;simp;omega
 ·simp
theorem clone_f (l:List Int) (h:l.length<17592186044416):slices_Clone_int_int.f l=some l:=by
 unfold slices_Clone_int_int.f
 rw[if_pos h]
theorem down_l (n:Nat):∀(q:List Int) (path:List (List Int)) (word:List Int),quadB q=true→path.length+n=201→0<n→word.length≤1000-n→
 Ev (fun k=>impl_down.l0 k q path word) (if(runD n q).length<n then(path++runD n q,word++wrdD n q,true)else([],[],false)):=by
 induction n with
 |zero=>intro q path word _ _ h0;omega
 |succ n ih=>
  intro q path word hq hn _ hw
  have h4:=quad_len hq
  have hr:=isRoot_ev hq
  rw[root_iff]at hr
  by_cases h:0≤dwn q
  ·rw[decide_eq_false (show¬dwn q<0 by omega)]at hr
   obtain⟨e,hl⟩:=dwn_pos h
   have hqn:=nxt_quad hq h
   have h4n:=quad_len hqn
   refine Ev.step (f:=fun k=>(impl_isRoot.f k q).bind fun t=>if t=true then some (path,word,true)else(impl_greatest.f k q).bind fun g=>(impl_swapped.f k q g).bind fun s=>(slices_Clone_int_int.f s).bind fun c=>if path.length<5864062014805 then((some (path++[c]:List (List Int))).bind fun y=>if word.length<17592186044416 then(if(y.length:Int)>200 then some ([],[],false)else impl_down.l0 k s y (word++[g]))else none)else none) (fun k=>by simp only[impl_down.l0]) ?_
   refine Ev.bind hr ?_
   simp only[Bool.false_eq_true,if_false]
   refine Ev.bind (greatest_ev hq) ?_
   refine Ev.bind (swapped_ev hq (argm4 q).2.2) ?_
   have hcl:=clone_f (nxt q) om
   unfold nxt at hcl
   rw[hcl]
   simp only[Option.bind_some,if_pos (show path.length<5864062014805 by omega),if_pos (show word.length<17592186044416 by omega),List.length_append,List.length_cons,List.length_nil]
   simp only[runD,wrdD,if_pos h,List.length_cons]
   by_cases hn0:n=0
   ·subst hn0
    simp only[if_pos (show((path.length+(0+1):Nat):Int)>200 by omega),runD,List.length_nil,if_neg (show¬(0+1<0+1) by omega)]
    exact Ev.now _
   ·simp only[if_neg (show¬((path.length+(0+1):Nat):Int)>200 by omega)]
    have:=ih (nxt q) (path++[nxt q]) (word++[dwn q]) hqn (by simp;omega) om (by simp;omega)
    rw[←e]
    by_cases hlt:(runD n (nxt q)).length<n
    ·rw[if_pos hlt]at this
     rw[if_pos om]
     simpa[nxt]using this
    ·rw[if_neg hlt]at this
     rw[if_neg om]
     exact this
  ·rw[decide_eq_true (show dwn q<0 by omega)]at hr
   refine Ev.step (f:=fun k=>(impl_isRoot.f k q).bind fun t=>if t=true then some (path,word,true)else(impl_greatest.f k q).bind fun g=>(impl_swapped.f k q g).bind fun s=>(slices_Clone_int_int.f s).bind fun c=>if path.length<5864062014805 then((some (path++[c]:List (List Int))).bind fun y=>if word.length<17592186044416 then(if(y.length:Int)>200 then some ([],[],false)else impl_down.l0 k s y (word++[g]))else none)else none) (fun k=>by simp only[impl_down.l0]) ?_
   refine Ev.bind hr ?_
   simp only[if_true,runD,wrdD,if_neg h,List.length_nil,List.append_nil,if_pos (show 0<n+1 by omega)]
   exact Ev.now _
theorem down_ev {q:List Int} (hq:quadB q=true):Ev (fun k=>impl_down.f k q) (if(runD 200 q).length<200 then(q::runD 200 q,wrdD 200 q,true)else([],[],false)):=by
 have h4:=quad_len hq
 unfold impl_down.f
 rw[clone_f q om]
 have:=down_l 200 q [q] [] hq rfl (by decide) (by decide)
 simpa using this
theorem downI_ev (q:List Int):Ev (fun k=>impl_DownPath.f k q) (pathR q):=by
 unfold impl_DownPath.f pathR
 refine Ev.bind (isQuad_ev q) ?_
 cases hq:quadB q with
 |false=>simp only[Bool.false_eq_true,if_false,false_and];exact Ev.now _
 |true=>
  simp only[if_true,true_and]
  refine Ev.bind (down_ev hq) ?_
  by_cases h:(runD 200 q).length<200
  ·simp only[if_pos h];exact Ev.now _
  ·simp only[if_neg h];exact Ev.now _
def insR (x:Int):List Int→List Int
 |[]=>[x]
 |y::t=>if y≤x then y::insR x t else x::y::t
theorem insR_perm (x:Int):∀l,(insR x l).Perm (x::l)
 |[]=>List.Perm.refl _
 |y::t=>by
  simp only[insR]
  split
  ·exact((insR_perm x t).cons y).trans (List.Perm.swap x y t)
  ·exact List.Perm.refl _
theorem insR_pw (x:Int):∀l:List Int,l.Pairwise (fun a b=>a≤b)→(insR x l).Pairwise (fun a b=>a≤b)
 |[],_=>by simp[insR]
 |y::t,h=>by
  simp only[insR]
  have h0:=List.pairwise_cons.1 h
  split
  ·rename_i hxy
   refine List.pairwise_cons.2 ⟨fun b hb=>?_,insR_pw x t h0.2⟩
   rcases List.mem_cons.1 ((insR_perm x t).mem_iff.1 hb)with rfl|hb
   ·exact hxy
   ·exact h0.1 b hb
  ·rename_i hxy
   refine List.pairwise_cons.2 ⟨fun b hb=>?_,h⟩
   rcases List.mem_cons.1 hb with rfl|hb
   ·omega
   ·have:=h0.1 b hb;omega
def foldR (out:List Int):List Int→List Int
 |[]=>out
 |x::t=>foldR (insR x out) t
theorem foldR_perm:∀(l out:List Int),(foldR out l).Perm (out++l)
 |[],out=>by simp[foldR]
 |x::t,out=>by
  simp only[foldR]
  refine(foldR_perm t _).trans (((insR_perm x out).append_right t).trans ?_)
  exact(List.perm_middle (a:=x) (l₁:=out) (l₂:=t)).symm
theorem foldR_pw:∀(l out:List Int),out.Pairwise (fun a b=>a≤b)→(foldR out l).Pairwise (fun a b=>a≤b)
 |[],_,h=>h
 |x::t,out,h=>foldR_pw t _ (insR_pw x out h)
theorem insR_len (x:Int) (l:List Int):(insR x l).length=l.length+1:=by rw[(insR_perm x l).length_eq];rfl
theorem apSorted_i (q:List Int) (n i:Int) (x:Int) (rest:List Int):∀(pre:List Int) (r:List Int),pre.length+rest.length≤1000→0≤i→i≤1000→
 Ev (fun k=>spec_apSorted.l0 k (pre++insR x rest) q n (i+1)) r→Ev (fun k=>spec_apSorted.l1 k (pre++rest) x (pre.length:Int) q n i) r:=by
 have put:∀(pre rest r:List Int),pre.length+rest.length≤1000→0≤i→i≤1000→Ev (fun k=>spec_apSorted.l0 k (pre++x::rest) q n (i+1)) r→
  Ev (fun k=>(if((pre.length:Nat):Int)≤((pre++rest).length:Int)then((spec_l1Own.f ((pre++rest).take ((pre.length:Nat):Int).toNat)).bind fun t=>(if t.length<17592186044416 then((some (t++[x]:List Int)).bind fun y=>((some ((pre++rest).drop ((pre.length:Nat):Int).toNat:List Int)).bind fun z=>(if y.length+z.length<17592186044416 then(spec_apSorted.l0 k (y++z) q n (wrap64 (i+1)))else(none))))else(none)))else(none))) r:=by
  intro pre rest r hl h0 h1 h
  obtain⟨K,h⟩:=h
  refine⟨K,fun k hk=>?_⟩
  have h:=h k hk
  dsimp only at h ⊢
  rw[if_pos (by rw[List.length_append];omega)]
  simp only[Int.toNat_natCast,List.take_left,List.drop_left]
  rw[l1Own_f pre om]
  simp only[Option.bind_some]
  rw[if_pos om,if_pos (by simp only[List.length_append,List.length_cons,List.length_nil];omega),wrap_id om om]
  simpa using h
 induction rest with
 |nil=>
  intro pre r hl h0 h1 h
  refine Ev.step (f:=fun k=>(if((pre.length:Nat):Int)≤((pre++[]).length:Int)then((spec_l1Own.f ((pre++[]).take ((pre.length:Nat):Int).toNat)).bind fun t=>(if t.length<17592186044416 then((some (t++[x]:List Int)).bind fun y=>((some ((pre++[]).drop ((pre.length:Nat):Int).toNat:List Int)).bind fun z=>(if y.length+z.length<17592186044416 then(spec_apSorted.l0 k (y++z) q n (wrap64 (i+1)))else(none))))else(none)))else(none))) (fun k=>?_) (put pre [] r hl h0 h1 h)
  simp only[spec_apSorted.l1]
  rw[if_neg sm,if_pos om]
 |cons y t ih=>
  intro pre r hl h0 h1 h
  have hrd:rd (pre++y::t) ((pre.length:Nat):Int)=y:=by simp[rd]
  have hlt:((pre.length:Nat):Int)<((pre++y::t).length:Int):=by simp only[List.length_append,List.length_cons];omega
  simp only[List.length_cons]at hl
  by_cases hy:y≤x
  ·refine Ev.step (f:=fun k=>spec_apSorted.l1 k ((pre++[y])++t) x ((pre++[y]).length:Int) q n i) (fun k=>?_) (ih (pre++[y]) r (by simp;omega) h0 h1 (by simpa[insR,hy]using h))
   simp only[spec_apSorted.l1]
   rw[if_pos hlt,if_pos om,hrd,if_pos hy,wrap_id om om]
   simp
  ·refine Ev.step (f:=fun k=>(if((pre.length:Nat):Int)≤((pre++(y::t)).length:Int)then((spec_l1Own.f ((pre++(y::t)).take ((pre.length:Nat):Int).toNat)).bind fun t_=>(if t_.length<17592186044416 then((some (t_++[x]:List Int)).bind fun y_=>((some ((pre++(y::t)).drop ((pre.length:Nat):Int).toNat:List Int)).bind fun z=>(if y_.length+z.length<17592186044416 then(spec_apSorted.l0 k (y_++z) q n (wrap64 (i+1)))else(none))))else(none)))else(none))) (fun k=>?_) (put pre (y::t) r (by simp only[List.length_cons];omega) h0 h1 (by simpa[insR,hy]using h))
   simp only[spec_apSorted.l1]
   rw[if_pos hlt,if_pos om,hrd,if_neg hy]
theorem apSorted_l (rest:List Int):∀(pre out:List Int),pre.length+rest.length≤900→out.length≤pre.length→
 Ev (fun k=>spec_apSorted.l0 k out (pre++rest) ((pre++rest).length:Int) (pre.length:Int)) (foldR out rest):=by
 induction rest with
 |nil=>
  intro pre out hl ho
  refine Ev.step (f:=fun _=>some out) (fun k=>?_) (Ev.now _)
  simp only[spec_apSorted.l0]
  rw[if_neg sm]
 |cons x t ih=>
  intro pre out hl ho
  have hrd:rd (pre++x::t) ((pre.length:Nat):Int)=x:=by simp[rd]
  have hlt:((pre.length:Nat):Int)<((pre++x::t).length:Int):=by simp only[List.length_append,List.length_cons];omega
  simp only[List.length_cons]at hl
  have h2:=ih (pre++[x]) (insR x out) (by simp;omega) (by rw[insR_len];simp;omega)
  have h3:=apSorted_i (pre++x::t) ((pre++x::t).length:Int) (pre.length:Int) x out [] (foldR (insR x out) t) (by simp;omega) om om (by simpa using h2)
  refine Ev.step (f:=fun k=>spec_apSorted.l1 k out x 0 (pre++x::t) ((pre++x::t).length:Int) (pre.length:Int)) (fun k=>?_) (by simpa[foldR]using h3)
  simp only[spec_apSorted.l0]
  rw[if_pos hlt,if_pos om,if_pos hlt,hrd]
def rootR (q:List Int):List Int × Bool:=if(pathR q).2=true then(sortI ((pathR q).1.getLastD []),true)else([],false)
theorem pathR_ne {q:List Int} (h:(pathR q).2=true):(pathR q).1≠[]:=by
 unfold pathR at*
 split at h
 ·rename_i h1;rw[if_pos h1];simp
 ·cases h
theorem pathR_quads {q:List Int} {x:List Int} (h:x∈(pathR q).1):quadB x=true:=by
 unfold pathR at h
 split at h
 ·rename_i h1
  rcases List.mem_cons.1 h with rfl|hx
  ·exact h1.1
  ·exact runD_quads 200 q h1.1 x hx
 ·cases h
theorem last_rd {l:List (List Int)} (h:l≠[]) (hl:l.length≤1000):0≤wrap64 ((l.length:Int)-1)∧wrap64 ((l.length:Int)-1)<(l.length:Int)∧rd_L5 l (wrap64 ((l.length:Int)-1))=l.getLastD []:=by
 have hp:0<l.length:=List.length_pos_iff.2 h
 rw[wrap_id om om]
 refine⟨om,om,?_⟩
 rw[show((l.length:Int)-1)=((l.length-1:Nat):Int) by omega]
 simp[rd_L5,List.getD_eq_getElem?_getD,List.getLastD_eq_getLast?,List.getLast?_eq_getElem?]
theorem last_quad {q:List Int} (h:(pathR q).2=true):quadB ((pathR q).1.getLastD [])=true:=by
 have hne:=pathR_ne h
 refine pathR_quads (q:=q) ?_
 rw[List.getLastD_eq_getLast?,List.getLast?_eq_some_getLast hne]
 exact List.getLast_mem hne
theorem rootI_ev (q:List Int):Ev (fun k=>impl_RootQuad.f k q) (rootR q):=by
 unfold impl_RootQuad.f rootR
 refine Ev.bind (downI_ev q) ?_
 cases h:(pathR q).2 with
 |false=>simp only[Bool.false_eq_true,if_false];exact Ev.now _
 |true=>
  obtain⟨h1,h2,h3⟩:=last_rd (pathR_ne h) (by have:=pathR_len q;omega)
  have h4:=quad_len (last_quad h)
  simp only[if_true,if_pos h1,if_pos h2,h3]
  have:slices_Sorted_int.f ((pathR q).1.getLastD [])=some (sortI ((pathR q).1.getLastD [])):=by
   unfold slices_Sorted_int.f
   rw[if_pos (by rw[h4];rfl)]
  rw[this]
  exact Ev.now _
def adm (most:Int):List Int→Option Nat→List Nat→Prop
 |_,_,[]=>True
 |q,p,i::w=>i<4∧p≠some i∧sv q i≤most∧adm most (swl q i) (some i) w
def dfs (most:Int):Nat→List Int→Option Nat→List (List Nat)
 |0,_,_=>[]
 |d+1,q,p=>(List.range 4).flatMap fun i=>if p≠some i∧sv q i≤most then[i]::(dfs most d (swl q i) (some i)).map (i:: ·)else[]
def cwI:List Int→List Nat→Int
 |_,[]=>0
 |q,[i]=>sv q i
 |q,i::j::w=>cwI (swl q i) (j::w)
theorem dfs_mem (most:Int):∀(d:Nat) (q:List Int) (p:Option Nat) (w:List Nat),w∈dfs most d q p↔w≠[]∧w.length≤d∧adm most q p w
 |0,q,p,w=>by
  cases w<;>simp[dfs]
 |d+1,q,p,w=>by
  simp only[dfs,List.mem_flatMap,List.mem_range]
  constructor
  ·rintro⟨i,hi,h⟩
   by_cases hc:p≠some i∧sv q i≤most
   ·rw[if_pos hc,List.mem_cons,List.mem_map]at h
    rcases h with rfl|⟨v,hv,rfl⟩
    ·exact⟨by simp,by simp,hi,hc.1,hc.2,trivial⟩
    ·obtain⟨_,h2,h3⟩:=(dfs_mem most d _ _ v).1 hv
     exact⟨by simp,by simpa using h2,hi,hc.1,hc.2,h3⟩
   ·rw[if_neg hc]at h
    cases h
  ·rintro⟨h0,h1,h2⟩
   cases w with
   |nil=>exact absurd rfl h0
   |cons i v=>
    obtain⟨a,b,c,e⟩:=h2
    refine⟨i,a,?_⟩
    rw[if_pos ⟨b,c⟩,List.mem_cons,List.mem_map]
    cases v with
    |nil=>exact .inl rfl
    |cons j v=>exact .inr ⟨j::v,(dfs_mem most d _ _ _).2 ⟨by simp,by simpa using h1,e⟩,rfl⟩
theorem nodup_fm {α:Type} {f:Nat→List α}:∀(l:List Nat),l.Nodup→(∀i∈l,(f i).Nodup)→(∀i∈l,∀j∈l,∀x,x∈f i→x∈f j→i=j)→(l.flatMap f).Nodup
 |[],_,_,_=>by simp
 |a::l,h0,h1,h2=>by
  rw[List.flatMap_cons,List.nodup_append]
  obtain⟨ha,hl⟩:=List.nodup_cons.1 h0
  refine⟨h1 a sm,nodup_fm l hl (fun i hi=>h1 i (by simp[hi])) (fun i hi j hj=>h2 i (by simp[hi]) j (by simp[hj])),?_⟩
  intro x hx y hy e
  subst e
  obtain⟨j,hj,hxj⟩:=List.mem_flatMap.1 hy
  have:=h2 a sm j (by simp[hj]) x hx hxj
  subst this
  exact ha hj
theorem nodup_mp {α β:Type} {f:α→β}:∀(l:List α),l.Nodup→(∀x∈l,∀y∈l,f x=f y→x=y)→(l.map f).Nodup
 |[],_,_=>by simp
 |a::l,h,hf=>by
  obtain⟨ha,hl⟩:=List.nodup_cons.1 h
  rw[List.map_cons,List.nodup_cons]
  refine⟨fun hm=>?_,nodup_mp l hl (fun x hx y hy=>hf x (by simp[hx]) y (by simp[hy]))⟩
  obtain⟨b,hb,e⟩:=List.mem_map.1 hm
  have:=hf b (by simp[hb]) a sm e
  subst this
  exact ha hb
theorem dfs_nodup (most:Int):∀(d:Nat) (q:List Int) (p:Option Nat),(dfs most d q p).Nodup
 |0,q,p=>by simp[dfs]
 |d+1,q,p=>by
  simp only[dfs]
  refine nodup_fm _ List.nodup_range (fun i _=>?_) (fun i _ j _ x hi hj=>?_)
  ·split
   ·rw[List.nodup_cons]
    refine⟨fun hm=>?_,nodup_mp _ (dfs_nodup most d _ _) (fun x _ y _ e=>(List.cons.inj e).2)⟩
    obtain⟨v,hv,e⟩:=List.mem_map.1 hm
    have:=((dfs_mem most d _ _ v).1 hv).1
    exact this (List.cons.inj e).2
   ·simp
  ·have key:∀i,x∈(if p≠some i∧sv q i≤most then[i]::(dfs most d (swl q i) (some i)).map (i:: ·)else[])→x.head?=some i:=by
    intro i h
    split at h
    ·rw[List.mem_cons,List.mem_map]at h
     rcases h with rfl|⟨v,_,rfl⟩<;>rfl
    ·cases h
   have a:=key i hi
   have b:=key j hj
   rw[a]at b
   exact Option.some.inj b
structure Ord (σ τ:Nat→Nat) (q r:List Int):Prop where
 l1:q.length=4
 l2:r.length=4
 s:q.sum=r.sum
 g:∀j,j<4→r.getD j 0=q.getD (σ j) 0
 a:∀j,j<4→σ j<4
 b:∀j,j<4→τ j<4
 c:∀j,j<4→σ (τ j)=j
 d:∀j,j<4→τ (σ j)=j
theorem Ord.sv {σ τ:Nat→Nat} {q r:List Int} (h:Ord σ τ q r) {j:Nat} (hj:j<4):sv r j=sv q (σ j):=by
 unfold P.sv
 rw[h.g j hj,h.s]
theorem sum_set4 (q:List Int) (i:Nat) (v:Int) (h:q.length=4) (hi:i<4):(q.set i v).sum=q.sum-q.getD i 0+v:=by
 match q,h with
 |[a,b,c,d],_=>
  match i,hi with
  |0,_=>simp;omega
  |1,_=>simp;omega
  |2,_=>simp;omega
  |3,_=>simp;omega
  |(i+4),h=>omega
theorem Ord.swl {σ τ:Nat→Nat} {q r:List Int} (h:Ord σ τ q r) {j:Nat} (hj:j<4):Ord σ τ (swl q (σ j)) (swl r j):=by
 have e:=h.sv hj
 have e1:P.swl r j=r.set j (P.sv r j):=rfl
 have e2:P.swl q (σ j)=q.set (σ j) (P.sv q (σ j)):=rfl
 refine⟨by rw[e2,List.length_set];exact h.l1,by rw[e1,List.length_set];exact h.l2,?_,?_,h.a,h.b,h.c,h.d⟩
 ·rw[e1,e2,sum_set4 q _ _ h.l1 (h.a j hj),sum_set4 r _ _ h.l2 hj,h.s,h.g j hj,e]
 ·intro k hk
  rw[e1,e2,List.getD_eq_getElem?_getD,List.getD_eq_getElem?_getD,List.getElem?_set,List.getElem?_set]
  have hl1:=h.l1
  have hl2:=h.l2
  have a1:=h.a j hj
  have a2:=h.a k hk
  by_cases hjk:j=k
  ·subst hjk
   rw[if_pos rfl,if_pos rfl,if_pos om,if_pos om,e]
  ·have hne:σ j≠σ k:=fun e3=>hjk (by rw[←h.d j hj,←h.d k hk,e3])
   rw[if_neg hjk,if_neg hne]
   have:=h.g k hk
   rwa [List.getD_eq_getElem?_getD,List.getD_eq_getElem?_getD]at this
theorem adm_ord {σ τ:Nat→Nat} (most:Int):∀(w:List Nat) (q r:List Int) (p:Option Nat),Ord σ τ q r→(∀i,p=some i→i<4)→(∀i∈w,i<4)→(adm most r p w↔adm most q (p.map σ) (w.map σ))
 |[],_,_,_,_,_,_=>by simp[adm]
 |i::w,q,r,p,h,hp,hw=>by
  have hi:i<4:=hw i sm
  have ih:=adm_ord most w (swl q (σ i)) (swl r i) (some i) (h.swl hi) (fun j e=>by cases e;exact hi) (fun j hj=>hw j (by simp[hj]))
  simp only[adm,List.map_cons]
  rw[h.sv hi,ih]
  have hne:p≠some i↔p.map σ≠some (σ i):=by
   cases p with
   |none=>simp
   |some j=>
    have hj:=hp j rfl
    simp only[ne_eq,Option.some.injEq,Option.map_some]
    constructor
    ·intro a e;exact a (by rw[←h.d j hj,←h.d i hi,e])
    ·intro a e;exact a (by rw[e])
  constructor
  ·rintro⟨_,a,b,c⟩;exact⟨h.a i hi,hne.1 a,b,c⟩
  ·rintro⟨_,a,b,c⟩;exact⟨hi,hne.2 a,b,c⟩
theorem adm_low {most:Int}:∀{w:List Nat} {q:List Int} {p:Option Nat},adm most q p w→∀i∈w,i<4
 |[],_,_,_,i,hi=>by cases hi
 |j::w,q,p,h,i,hi=>by
  rcases List.mem_cons.1 hi with rfl|hi
  ·exact h.1
  ·exact adm_low h.2.2.2 i hi
theorem cwI_ord {σ τ:Nat→Nat}:∀(w:List Nat) (q r:List Int),Ord σ τ q r→(∀i∈w,i<4)→cwI r w=cwI q (w.map σ)
 |[],_,_,_,_=>rfl
 |[i],q,r,h,hw=>h.sv (hw i sm)
 |i::j::w,q,r,h,hw=>by
  have:=cwI_ord (j::w) (swl q (σ i)) (swl r i) (h.swl (hw i sm)) (fun k hk=>hw k (by simp at hk ⊢;exact .inr hk))
  simpa[cwI]using this
theorem dfs_ord {σ τ:Nat→Nat} {q r:List Int} (h:Ord σ τ q r) (most:Int) (d:Nat):((dfs most d r none).map (cwI r)).Perm ((dfs most d q none).map (cwI q)):=by
 have e:(dfs most d r none).map (cwI r)=((dfs most d r none).map (List.map σ)).map (cwI q):=by
  rw[List.map_map]
  refine List.map_congr_left (fun w hw=>?_)
  exact cwI_ord w q r h (adm_low ((dfs_mem most d r none w).1 hw).2.2)
 rw[e]
 refine List.Perm.map _ ((List.perm_ext_iff_of_nodup (nodup_mp _ (dfs_nodup most d r none) ?_) (dfs_nodup most d q none)).2 ?_)
 ·intro x hx y hy e
  have lx:=adm_low ((dfs_mem most d r none x).1 hx).2.2
  have ly:=adm_low ((dfs_mem most d r none y).1 hy).2.2
  have:=congrArg (List.map τ) e
  rw[List.map_map,List.map_map]at this
  have k1:∀(z:List Nat),(∀i∈z,i<4)→z.map (τ∘σ)=z:=fun z hz=>by
   conv=>rhs;rw[←List.map_id z]
   exact List.map_congr_left (fun i hi=>h.d i (hz i hi))
  rwa [k1 x lx,k1 y ly]at this
 ·intro w
  constructor
  ·intro hm
   obtain⟨v,hv,rfl⟩:=List.mem_map.1 hm
   obtain⟨a,b,c⟩:=(dfs_mem most d r none v).1 hv
   refine(dfs_mem most d q none _).2 ⟨by simpa using a,by simpa using b,?_⟩
   exact(adm_ord most v q r none h sm (adm_low c)).1 c
  ·intro hm
   obtain⟨a,b,c⟩:=(dfs_mem most d q none w).1 hm
   have lw:=adm_low c
   have k2:(w.map τ).map σ=w:=by
    rw[List.map_map]
    conv=>rhs;rw[←List.map_id w]
    exact List.map_congr_left (fun i hi=>h.c i (lw i hi))
   refine List.mem_map.2 ⟨w.map τ,(dfs_mem most d r none _).2 ⟨by simpa using a,by simpa using b,?_⟩,k2⟩
   refine(adm_ord most (w.map τ) q r none h sm (fun i hi=>?_)).2 (by rw[k2];exact c)
   obtain⟨j,hj,rfl⟩:=List.mem_map.1 hi
   exact h.b j (lw j hj)
theorem perm_ord {l m:List Int} (h:l.Perm m):∃σ τ:Nat→Nat,(∀j,j<l.length→m.getD j 0=l.getD (σ j) 0∧σ j<l.length∧τ j<l.length∧σ (τ j)=j∧τ (σ j)=j):=by
 induction h with
 |nil=>exact⟨id,id,by simp⟩
 |@cons x l m _ ih=>
  obtain⟨σ,τ,h⟩:=ih
  refine⟨fun j=>if j=0 then 0 else σ (j-1)+1,fun j=>if j=0 then 0 else τ (j-1)+1,?_⟩
  intro j hj
  cases j with
  |zero=>simp
  |succ j=>
   obtain⟨a,b,c,d,e⟩:=h j (by simpa using hj)
   simp only[List.length_cons]
   refine⟨by simpa using a,by simpa using b,by simpa using c,by simpa using d,by simpa using e⟩
 |swap x y l=>
  refine⟨fun j=>if j=0 then 1 else if j=1 then 0 else j,fun j=>if j=0 then 1 else if j=1 then 0 else j,?_⟩
  intro j hj
  match j with
  |0=>simp
  |1=>simp
  |(j+2)=>simp at hj ⊢;omega
 |trans h1 h2 i1 i2=>
  obtain⟨σ,τ,h⟩:=i1
  obtain⟨σ2,τ2,g⟩:=i2
  have e:=h1.length_eq
  refine⟨fun j=>σ (σ2 j),fun j=>τ2 (τ j),?_⟩
  intro j hj
  obtain⟨a,b,c,d,f⟩:=g j om
  obtain⟨a2,b2,c2,d2,f2⟩:=h (σ2 j) om
  obtain⟨a3,b3,c3,d3,f3⟩:=h j hj
  obtain⟨a4,b4,c4,d4,f4⟩:=g (τ j) om
  refine⟨a.trans a2,b2,by simp only;omega,?_,?_⟩
  ·simp only;rw[d4,d3]
  ·simp only;rw[f2,f]
theorem perm_Ord {q r:List Int} (h:q.Perm r) (h4:q.length=4):∃σ τ,Ord σ τ q r:=by
 obtain⟨σ,τ,g⟩:=perm_ord h
 have s:q.sum=r.sum:=by
  clear g h4
  induction h with
  |nil=>rfl
  |cons x _ ih=>simp[ih]
  |swap x y l=>simp;omega
  |trans _ _ a b=>exact a.trans b
 refine⟨σ,τ,h4,by rw[←h.length_eq];exact h4,s,fun j hj=>(g j om).1,fun j hj=>?_,fun j hj=>?_,fun j hj=>(g j om).2.2.2.1,fun j hj=>(g j om).2.2.2.2⟩
 ·have:=(g j om).2.1;omega
 ·have:=(g j om).2.2.1;omega
def sM:Nat→Int
 |0=>1
 |m+1=>sM m+4*(m:Int)
structure InvT (m:Nat) (q:List Int) (last:Int):Prop where
 quad:quadB q=true
 pos:∀i j:Nat,i<4→j<4→i≠j→1≤q.getD i 0+q.getD j 0
 sum:sM m≤q.sum
 inc:∀j:Nat,j<4→(j:Int)≠last→4*(m:Int)≤2*q.sum-4*q.getD j 0
theorem sM_pos (m:Nat):1≤sM m:=by
 induction m with
 |zero=>exact Int.le_refl _
 |succ m ih=>simp only[sM];omega
theorem sM_mono (m:Nat) (h:22≤m):925≤sM m:=by
 induction m with
 |zero=>omega
 |succ m ih=>
  by_cases h2:22≤m
  ·have:=ih h2;simp only[sM];omega
  ·obtain rfl:m=21:=om
   exact by decide
theorem InvT.deep {m:Nat} {q:List Int} {last:Int} (h:InvT m q last) {j:Nat} (hj:j<4) (hl:(j:Int)≠last) (hv:sv q j≤500):m≤21:=by
 have h1:=h.sum
 have h2:=h.inc j hj hl
 unfold sv at hv
 by_cases hm:m≤21
 ·exact hm
 ·have:=sM_mono m om
  omega
theorem InvT.new {m:Nat} {q:List Int} {last:Int} (h:InvT m q last) {j:Nat} (hj:j<4) (hl:(j:Int)≠last):1≤sv q j∧q.getD j 0≤sv q j:=by
 have h1:=h.sum
 have h2:=h.inc j hj hl
 have h3:=sM_pos m
 unfold sv
 omega
theorem InvT.child {m:Nat} {q:List Int} {last:Int} (h:InvT m q last) {j:Nat} (hj:j<4) (hl:(j:Int)≠last) (hv:sv q j≤500):InvT (m+1) (swl q j) j:=by
 have hn:=h.new hj hl
 have hi:=h.inc j hj hl
 have hs:=h.sum
 have hq2:=quad_swl h.quad hj
 have h4:=quad_len h.quad
 rw[swl_get om,inB_of ⟨om,om⟩]at hq2
 obtain⟨a,b,c,d,rfl,_⟩:=quadB_iff.1 h.quad
 have p01:=h.pos 0 1 om om om
 have p02:=h.pos 0 2 om om om
 have p03:=h.pos 0 3 om om om
 have p12:=h.pos 1 2 om om om
 have p13:=h.pos 1 3 om om om
 have p23:=h.pos 2 3 om om om
 clear h hl h4
 have key:∀x0 x1 x2 x3:Int,(∀i k:Nat,i<4→k<4→i≠k→1≤([x0,x1,x2,x3]:List Int).getD i 0+([x0,x1,x2,x3]:List Int).getD k 0)↔(1≤x0+x1∧1≤x0+x2∧1≤x0+x3∧1≤x1+x2∧1≤x1+x3∧1≤x2+x3):=by
  intro x0 x1 x2 x3
  constructor
  ·intro h
   have q01:=h 0 1 om om om
   have q02:=h 0 2 om om om
   have q03:=h 0 3 om om om
   have q12:=h 1 2 om om om
   have q13:=h 1 3 om om om
   have q23:=h 2 3 om om om
   simp at q01 q02 q03 q12 q13 q23
   omega
  ·intro h i k hi hk hne
   match i,k,hi,hk,hne with
   |0,1,_,_,_=>simp;omega
   |0,2,_,_,_=>simp;omega
   |0,3,_,_,_=>simp;omega
   |1,0,_,_,_=>simp;omega
   |1,2,_,_,_=>simp;omega
   |1,3,_,_,_=>simp;omega
   |2,0,_,_,_=>simp;omega
   |2,1,_,_,_=>simp;omega
   |2,3,_,_,_=>simp;omega
   |3,0,_,_,_=>simp;omega
   |3,1,_,_,_=>simp;omega
   |3,2,_,_,_=>simp;omega
   |3,3,_,_,h=>exact absurd rfl h
 match j,hj with
 |0,_=>
  rw[swl0]at*
  simp[sv]at*
  refine⟨hq2,(key _ _ _ _).2 om,by simp only[sM];simp;omega,?_⟩
  intro k hk hne
  match k,hk with
  |0,_=>exact absurd rfl hne
  |1,_=>simp;omega
  |2,_=>simp;omega
  |3,_=>simp;omega
 |1,_=>
  rw[swl1]at*
  simp[sv]at*
  refine⟨hq2,(key _ _ _ _).2 om,by simp only[sM];simp;omega,?_⟩
  intro k hk hne
  match k,hk with
  |0,_=>simp;omega
  |1,_=>exact absurd rfl hne
  |2,_=>simp;omega
  |3,_=>simp;omega
 |2,_=>
  rw[swl2]at*
  simp[sv]at*
  refine⟨hq2,(key _ _ _ _).2 om,by simp only[sM];simp;omega,?_⟩
  intro k hk hne
  match k,hk with
  |0,_=>simp;omega
  |1,_=>simp;omega
  |2,_=>exact absurd rfl hne
  |3,_=>simp;omega
 |3,_=>
  rw[swl3]at*
  simp[sv]at*
  refine⟨hq2,(key _ _ _ _).2 om,by simp only[sM];simp;omega,?_⟩
  intro k hk hne
  match k,hk with
  |0,_=>simp;omega
  |1,_=>simp;omega
  |2,_=>simp;omega
  |3,_=>exact absurd rfl hne
def wM:Nat→Nat
 |0=>0
 |d+1=>1+3*wM d
theorem wM_22:wM 22=15690529804:=by decide
def cM (i:Nat) (last:Int):Nat:=if(i:Int)≤last then 3-i else 4-i
def wds (most:Int) (d:Nat) (q:List Int) (p:Option Nat) (i e:Nat):List (List Nat):=(List.range' i e).flatMap fun i=>if p≠some i∧sv q i≤most then[i]::(dfs most d (swl q i) (some i)).map (i:: ·)else[]
theorem wds_succ (most:Int) (d:Nat) (q:List Int) (p:Option Nat) (i e:Nat):wds most d q p i (e+1)=(if p≠some i∧sv q i≤most then[i]::(dfs most d (swl q i) (some i)).map (i:: ·)else[])++wds most d q p (i+1) e:=by
 unfold wds
 rw[List.range'_succ,List.flatMap_cons]
theorem dfs_wds (most:Int) (d:Nat) (q:List Int) (p:Option Nat):dfs most (d+1) q p=wds most d q p 0 4:=by
 unfold wds
 rw[←List.range_eq_range']
 rfl
theorem cwI_cons {q:List Int} {i:Nat} {v:List Nat} (h:v≠[]):cwI q (i::v)=cwI (swl q i) v:=by
 cases v with
 |nil=>exact absurd rfl h
 |cons j v=>rfl
theorem cwI_map (most:Int) (d:Nat) (q:List Int) (i:Nat):(([i]::(dfs most d (swl q i) (some i)).map (i:: ·)).map (cwI q))=sv q i::(dfs most d (swl q i) (some i)).map (cwI (swl q i)):=by
 rw[List.map_cons,List.map_map]
 congr 1
 refine List.map_congr_left (fun v hv=>?_)
 exact cwI_cons ((dfs_mem most d _ _ v).1 hv).1
def lastO:Option Nat→Int
 |none=> -1
 |some i=>(i:Int)
theorem lastO_ne {p:Option Nat} {i:Nat}:(i:Int)=lastO p↔p=some i:=by
 cases p with
 |none=>simp[lastO]
 |some j=>simp only[lastO,Option.some.injEq];omega
theorem circ_l (most:Int) (hmo:most≤500) (d:Nat):∀(m:Nat) (q:List Int) (p:Option Nat),m+d=22→InvT m q (lastO p)→(∀i,p=some i→i<4)→
 ∀(e i:Nat) (out:List Int),i+e=4→out.length+cM i (lastO p)*wM d≤1000000000000→
 Ev (fun k=>impl_circles.l0 k out q (lastO p) most 4 (i:Int)) (out++(wds most (d-1) q p i e).map (cwI q))∧(d=0→wds most (d-1) q p i e=[])∧(wds most (d-1) q p i e).length≤cM i (lastO p)*wM d:=by
 induction d with
 |zero=>
  intro m q p hm hI hp e
  induction e with
  |zero=>
   intro i out hi hb
   refine⟨?_,fun _=>rfl,by simp[wds]⟩
   refine Ev.step (f:=fun _=>some out) (fun k=>?_) (by simp only[wds,List.range'_zero,List.flatMap_nil,List.map_nil,List.append_nil];exact Ev.now _)
   simp only[impl_circles.l0]
   rw[if_neg om]
  |succ e ih=>
   intro i out hi hb
   obtain⟨e1,e2,e3⟩:=ih (i+1) out om (by simp only[wM,Nat.mul_zero]at hb ⊢;exact hb)
   have hw:wrap64 ((i:Int)+1)=((i+1:Nat):Int):=by rw[wrap_id om om];omega
   have hlen:=quad_len hI.quad
   have hno:¬(p≠some i∧sv q i≤most):=fun⟨a,b⟩=>by
    have:=hI.deep (show i<4 by omega) (fun h=>a (lastO_ne.1 h)) om
    omega
   have hz:wds most (0-1) q p i (e+1)=[]:=by rw[wds_succ,if_neg hno,e2 rfl];rfl
   refine⟨?_,fun _=>hz,by rw[hz];simp⟩
   rw[hz]
   rw[e2 rfl]at e1
   by_cases hil:(i:Int)=lastO p
   ·refine Ev.step (f:=fun k=>impl_circles.l0 k out q (lastO p) most 4 ((i+1:Nat):Int)) (fun k=>?_) e1
    simp only[impl_circles.l0]
    rw[if_pos om,if_pos hil,hw]
   ·have hnv:¬sv q i≤most:=fun hv=>hno ⟨fun h=>hil (lastO_ne.2 h),hv⟩
    refine Ev.step (f:=fun k=>(impl_swapped.f k q (i:Int)).bind fun t=>(if 0≤(i:Int)then(if(i:Int)<(t.length:Int)then(if(rd t (i:Int))≤most then(if out.length<17592186044416 then((impl_circles.f k (out++[rd t (i:Int)]) t (i:Int) most).bind fun t2=>(impl_circles.l0 k t2 q (lastO p) most 4 (wrap64 ((i:Int)+1))))else(none))else(impl_circles.l0 k out q (lastO p) most 4 (wrap64 ((i:Int)+1))))else(none))else(none))) (fun k=>?_) ?_
    ·simp only[impl_circles.l0]
     rw[if_pos om,if_neg hil]
    ·refine Ev.bind (swapped_ev hI.quad (show i<4 by omega)) ?_
     simp only[swl_length,hlen,rd_nat]
     rw[swl_get om]
     simp only[if_pos (show(0:Int)≤(i:Int) by omega),if_pos (show(i:Int)<((4:Nat):Int) by omega),if_neg hnv,hw]
     exact e1
 |succ d ihd=>
  intro m q p hm hI hp e
  induction e with
  |zero=>
   intro i out hi hb
   refine⟨?_,(fun h=>by cases h),by simp[wds]⟩
   refine Ev.step (f:=fun _=>some out) (fun k=>?_) (by simp only[wds,List.range'_zero,List.flatMap_nil,List.map_nil,List.append_nil];exact Ev.now _)
   simp only[impl_circles.l0]
   rw[if_neg om]
  |succ e ih=>
   intro i out hi hb
   have hw:wrap64 ((i:Int)+1)=((i+1:Nat):Int):=by rw[wrap_id om om];omega
   have hlen:=quad_len hI.quad
   simp only[Nat.add_sub_cancel]at ih ⊢
   have hlp: -1≤lastO p∧lastO p≤3:=by
    cases p with
    |none=>simp[lastO]
    |some j=>have:=hp j rfl;simp only[lastO];omega
   by_cases hil:(i:Int)=lastO p
   ·have hc:cM (i+1) (lastO p)=cM i (lastO p):=by
     unfold cM
     rw[if_neg om,if_pos om]
     omega
    have hno:¬(p≠some i∧sv q i≤most):=fun h=>h.1 (lastO_ne.1 hil)
    obtain⟨e1,_,e3⟩:=ih (i+1) out om (by rw[hc];exact hb)
    rw[wds_succ,if_neg hno,List.nil_append]
    refine⟨?_,(fun h=>by cases h),by rw[←hc];exact e3⟩
    refine Ev.step (f:=fun k=>impl_circles.l0 k out q (lastO p) most 4 ((i+1:Nat):Int)) (fun k=>?_) e1
    simp only[impl_circles.l0]
    rw[if_pos om,if_pos hil,hw]
   ·have hc:cM i (lastO p)=cM (i+1) (lastO p)+1:=by
     unfold cM
     by_cases h:(i:Int)<lastO p
     ·rw[if_pos om,if_pos om];omega
     ·rw[if_neg om,if_neg om];omega
    rw[hc]at hb
    have hmul:(cM (i+1) (lastO p)+1)*wM (d+1)=cM (i+1) (lastO p)*wM (d+1)+wM (d+1):=by rw[Nat.add_mul,Nat.one_mul]
    have hw1:wM (d+1)=1+3*wM d:=rfl
    by_cases hv:sv q i≤most
    ·have hC:=hI.child (show i<4 by omega) hil om
     have hyes:p≠some i∧sv q i≤most:=⟨fun h=>hil (lastO_ne.2 h),hv⟩
     have hc0:cM 0 (lastO (some i))=3:=by unfold cM;rw[if_pos (by simp only[lastO];omega)]
     obtain⟨c1,c2,c3⟩:=ihd (m+1) (swl q i) (some i) om hC (fun j h=>by cases h;omega) 4 0 (out++[sv q i]) om (by rw[hc0];simp only[List.length_append,List.length_cons,List.length_nil];omega)
     have hD:wds most (d-1) (swl q i) (some i) 0 4=dfs most d (swl q i) (some i):=by
      cases d with
      |zero=>rw[c2 rfl];rfl
      |succ d=>rw[dfs_wds];rfl
     rw[hD]at c1 c3
     rw[hc0]at c3
     obtain⟨e1,_,e3⟩:=ih (i+1) (out++[sv q i]++(dfs most d (swl q i) (some i)).map (cwI (swl q i))) om (by simp only[List.length_append,List.length_cons,List.length_nil,List.length_map];omega)
     have hlen2:=quad_len hC.quad
     rw[wds_succ,if_pos hyes]
     refine⟨?_,(fun h=>by cases h),?_⟩
     ·rw[List.map_append,cwI_map]
      refine Ev.step (f:=fun k=>(impl_swapped.f k q (i:Int)).bind fun t=>(if 0≤(i:Int)then(if(i:Int)<(t.length:Int)then(if(rd t (i:Int))≤most then(if out.length<17592186044416 then((impl_circles.f k (out++[rd t (i:Int)]) t (i:Int) most).bind fun t2=>(impl_circles.l0 k t2 q (lastO p) most 4 (wrap64 ((i:Int)+1))))else(none))else(impl_circles.l0 k out q (lastO p) most 4 (wrap64 ((i:Int)+1))))else(none))else(none))) (fun k=>?_) ?_
      ·simp only[impl_circles.l0]
       rw[if_pos om,if_neg hil]
      ·refine Ev.bind (swapped_ev hI.quad (show i<4 by omega)) ?_
       simp only[swl_length,hlen,rd_nat]
       rw[swl_get om]
       simp only[if_pos (show(0:Int)≤(i:Int) by omega),if_pos (show(i:Int)<((4:Nat):Int) by omega),if_pos hv,if_pos (show out.length<17592186044416 by omega),hw]
       refine Ev.bind (a:=out++[sv q i]++(dfs most d (swl q i) (some i)).map (cwI (swl q i))) ?_ (by simpa using e1)
       refine Ev.step (f:=fun k=>impl_circles.l0 k (out++[sv q i]) (swl q i) (i:Int) most 4 0) (fun k=>?_) (by simpa[lastO]using c1)
       simp only[impl_circles.f,hlen2]
       rfl
     ·rw[hc]
      simp only[List.length_cons,List.length_append,List.length_map]
      omega
    ·have hno:¬(p≠some i∧sv q i≤most):=fun h=>hv h.2
     obtain⟨e1,_,e3⟩:=ih (i+1) out om om
     rw[wds_succ,if_neg hno,List.nil_append]
     refine⟨?_,(fun h=>by cases h),by rw[hc];omega⟩
     refine Ev.step (f:=fun k=>(impl_swapped.f k q (i:Int)).bind fun t=>(if 0≤(i:Int)then(if(i:Int)<(t.length:Int)then(if(rd t (i:Int))≤most then(if out.length<17592186044416 then((impl_circles.f k (out++[rd t (i:Int)]) t (i:Int) most).bind fun t2=>(impl_circles.l0 k t2 q (lastO p) most 4 (wrap64 ((i:Int)+1))))else(none))else(impl_circles.l0 k out q (lastO p) most 4 (wrap64 ((i:Int)+1))))else(none))else(none))) (fun k=>?_) ?_
     ·simp only[impl_circles.l0]
      rw[if_pos om,if_neg hil]
     ·refine Ev.bind (swapped_ev hI.quad (show i<4 by omega)) ?_
      simp only[swl_length,hlen,rd_nat]
      rw[swl_get om]
      simp only[if_pos (show(0:Int)≤(i:Int) by omega),if_pos (show(i:Int)<((4:Nat):Int) by omega),if_neg hv,hw]
      exact e1
theorem adm_len (most:Int) (hmo:most≤500):∀(w:List Nat) (m:Nat) (q:List Int) (p:Option Nat),InvT m q (lastO p)→m≤22→adm most q p w→w.length+m≤22
 |[],m,q,p,_,h,_=>by simpa using h
 |i::w,m,q,p,hI,h,ha=>by
  obtain⟨a,b,c,e⟩:=ha
  have hil:(i:Int)≠lastO p:=fun h=>b (lastO_ne.1 h)
  have hd:=hI.deep a hil om
  have:=adm_len most hmo w (m+1) (swl q i) (some i) (hI.child a hil om) om e
  simp only[List.length_cons]
  omega
theorem circ_ev {q:List Int} (hI:InvT 0 q (-1)) (most:Int) (hmo:most≤500) (out:List Int) (ho:out.length≤4):
 Ev (fun k=>impl_circles.f k out q (-1) most) (out++(dfs most 22 q none).map (cwI q))∧(dfs most 22 q none).length≤100000000000:=by
 have hc:cM 0 (-1)=4:=rfl
 have h22:=wM_22
 have hl:lastO none= -1:=rfl
 obtain⟨e1,e2,e3⟩:=circ_l most hmo 22 0 q none rfl hI sm 4 0 out rfl (by rw[hl,hc];omega)
 have hlen:=quad_len hI.quad
 rw[dfs_wds]
 refine⟨?_,by rw[hl,hc]at e3;exact Nat.le_trans e3 om⟩
 refine Ev.step (f:=fun k=>impl_circles.l0 k out q (-1) most 4 0) (fun k=>?_) (by simpa[hl]using e1)
 simp only[impl_circles.f,hlen]
 rfl
theorem perm_sum {l m:List Int} (h:l.Perm m):l.sum=m.sum:=by
 induction h with
 |nil=>rfl
 |cons x _ ih=>simp[ih]
 |swap x y l=>simp;omega
 |trans _ _ ih1 ih2=>exact ih1.trans ih2
theorem pair_pos {a b c d:Int} (hs:1≤a+b+c+d) (hq:2*(a*a+b*b+c*c+d*d)=(a+b+c+d)*(a+b+c+d)) (hn:a<0∨b<0∨c<0∨d<0):1≤a+b:=by
 have e:(a-b)*(a-b)+(c-d)*(c-d)=2*((a+b)*(c+d)):=by grind
 have sq:∀x:Int,0≤x*x:=fun x=>by
  rcases Int.le_total 0 x with h|h
  ·exact Int.mul_nonneg h h
  ·have:=Int.mul_nonneg (show 0≤ -x by omega) (show 0≤ -x by omega)
   rwa [Int.neg_mul_neg]at this
 have n1:=sq (a-b)
 have n2:=sq (c-d)
 by_cases h:1≤a+b
 ·exact h
 ·exfalso
  have hc:1≤c+d:=om
  by_cases h0:a+b=0
  ·rw[h0,Int.zero_mul]at e
   have z1:(a-b)*(a-b)=0:=om
   have z2:(c-d)*(c-d)=0:=om
   have y1:a-b=0:=by rcases Int.mul_eq_zero.1 z1 with h|h<;>exact h
   have y2:c-d=0:=by rcases Int.mul_eq_zero.1 z2 with h|h<;>exact h
   omega
  ·have:=Int.mul_pos (show 0< -(a+b) by omega) (show 0<c+d by omega)
   rw[Int.neg_mul]at this
   omega
theorem runD_last (n:Nat):∀q,(runD n q).length<n→dwn ((q::runD n q).getLastD [])<0:=by
 induction n with
 |zero=>intro q h;omega
 |succ n ih=>
  intro q h
  simp only[runD]at h ⊢
  by_cases h0:0≤dwn q
  ·rw[if_pos h0]at h ⊢
   simp only[List.length_cons]at h
   exact ih (nxt q) om
  ·rw[if_neg h0]
   show dwn q<0
   omega
theorem root_inv {q:List Int} (hp:(rootR q).2=true) (hneg:rd (rootR q).1 0<0):
 InvT 0 (rootR q).1 (-1)∧∃x y z u,(rootR q).1=[x,y,z,u]∧x<0∧1≤y∧1≤z∧1≤u:=by
 have hp2:(pathR q).2=true:=by
  unfold rootR at hp
  split at hp
  ·assumption
  ·cases hp
 have hr:(rootR q).1=sortI ((pathR q).1.getLastD []):=by unfold rootR;rw[if_pos hp2]
 have hlq:=last_quad hp2
 have hdw:dwn ((pathR q).1.getLastD [])<0:=by
  unfold pathR at hp2 ⊢
  split at hp2
  ·rename_i h
   rw[if_pos h]
   exact runD_last 200 q h.2
  ·cases hp2
 rw[hr]at hneg ⊢
 generalize (pathR q).1.getLastD []=L at*
 have hpm:=sortI_perm L
 have hpw:=sortI_pw L
 have hrb:rootB L 0 4=true:=by rw[root_iff];exact decide_eq_true hdw
 obtain⟨a,b,c,d,rfl,ha,hb,hc,hd,hS,hQ⟩:=quadB_iff.1 hlq
 obtain⟨x,y,z,u,hx⟩:=four (show(sortI [a,b,c,d]).length=4 by rw[sortI_len];rfl)
 rw[hx]at hpm hpw hneg ⊢
 have hs1:=perm_sum hpm
 have hs2:=perm_sum (hpm.map (fun t=>t*t))
 simp only[List.map_cons,List.map_nil,List.sum_cons,List.sum_nil,Int.add_zero]at hs1 hs2
 simp only[rootB,Nat.zero_add,Nat.reduceAdd,Bool.and_true,Bool.and_eq_true,decide_eq_true_iff,sv]at hrb
 simp at hrb
 have mem:∀t∈([x,y,z,u]:List Int),t=a∨t=b∨t=c∨t=d:=fun t ht=>by
  have:=hpm.mem_iff.1 ht
  simpa using this
 have mx:=mem x sm
 have my:=mem y sm
 have mz:=mem z sm
 have mu:=mem u sm
 have hneg':x<0:=by simpa[rd]using hneg
 simp at hpw
 have hS2:1≤x+y+z+u:=om
 have hQ2:2*(x*x+y*y+z*z+u*u)=(x+y+z+u)*(x+y+z+u):=by
  rw[show x+y+z+u=a+b+c+d by omega,←hQ]
  omega
 have p01:=pair_pos hS2 hQ2 (.inl hneg')
 have p02:=pair_pos (a:=x) (b:=z) (c:=y) (d:=u) om (by grind) (.inl hneg')
 have p03:=pair_pos (a:=x) (b:=u) (c:=y) (d:=z) om (by grind) (.inl hneg')
 have hbq:∀t,t=a∨t=b∨t=c∨t=d→bq t:=by
  rintro t (rfl|rfl|rfl|rfl)<;>assumption
 refine⟨⟨quadB_iff.2 ⟨x,y,z,u,rfl,hbq x mx,hbq y my,hbq z mz,hbq u mu,om,hQ2⟩,?_,by simp[sM];omega,?_⟩,x,y,z,u,rfl,hneg',om,om,om⟩
 ·intro i k hi hk hne
  match i,k,hi,hk,hne with
  |0,1,_,_,_=>simp;omega
  |0,2,_,_,_=>simp;omega
  |0,3,_,_,_=>simp;omega
  |1,0,_,_,_=>simp;omega
  |1,2,_,_,_=>simp;omega
  |1,3,_,_,_=>simp;omega
  |2,0,_,_,_=>simp;omega
  |2,1,_,_,_=>simp;omega
  |2,3,_,_,_=>simp;omega
  |3,0,_,_,_=>simp;omega
  |3,1,_,_,_=>simp;omega
  |3,2,_,_,_=>simp;omega
  |3,3,_,_,h=>exact absurd rfl h
 ·intro j hj _
  match j,hj with
  |0,_=>simp;omega
  |1,_=>simp;omega
  |2,_=>simp;omega
  |3,_=>simp;omega
theorem packed_l {r:List Int} (hI:InvT 0 r (-1)) (a1:Int) (h500:a1≤500) (e:Nat):∀(i:Nat) (out:List Int),i+e=4→out.length≤i→(out≠[]∨i=0∧r.getD 0 0≤a1)→
 Ev (fun k=>impl_packed.l0 k out r a1 (i:Int)) (sortI (out++((r.drop i).filter (fun x=>decide (x≤a1))++(dfs a1 22 r none).map (cwI r)))):=by
 have hlen:=quad_len hI.quad
 induction e with
 |zero=>
  intro i out hi ho hne
  obtain⟨e1,e3⟩:=circ_ev hI a1 h500 out om
  have hd:r.drop i=[]:=List.drop_eq_nil_of_le om
  have hne':out≠[]:=by
   rcases hne with h|h
   ·exact h
   ·omega
  refine Ev.step (f:=fun k=>(impl_circles.f k out r (-1) a1).bind fun o=>slices_Sort_int_int.f o) (fun k=>?_) ?_
  ·simp only[impl_packed.l0]
   rw[if_neg om]
  ·refine Ev.bind e1 ?_
   rw[hd]
   simp only[List.filter_nil,List.nil_append,slices_Sort_int_int.f]
   have h1:0<(out++(dfs a1 22 r none).map (cwI r)).length:=by
    have:=List.length_pos_iff.2 hne'
    rw[List.length_append];omega
   have h2:(out++(dfs a1 22 r none).map (cwI r)).length<4611686018427387904:=by rw[List.length_append,List.length_map];omega
   rw[if_pos (by rw[decide_eq_true h1,decide_eq_true h2];rfl)]
   exact Ev.now _
 |succ e ih=>
  intro i out hi ho hne
  have hw:wrap64 ((i:Int)+1)=((i+1:Nat):Int):=by rw[wrap_id om om];omega
  have hrd:rd r (i:Int)=r.getD i 0:=rd_nat r i
  have hil:i<r.length:=om
  have hdr:r.drop i=r.getD i 0::r.drop (i+1):=by
   rw[List.drop_eq_getElem_cons hil]
   simp[List.getD_eq_getElem?_getD,List.getElem?_eq_getElem hil]
  by_cases hx:r.getD i 0≤a1
  ·have e1:=ih (i+1) (out++[r.getD i 0]) om (by simp;omega) (.inl sm)
   have hf:(r.drop i).filter (fun x=>decide (x≤a1))=r.getD i 0::(r.drop (i+1)).filter (fun x=>decide (x≤a1)):=by
    rw[hdr,List.filter_cons_of_pos (by simpa using hx)]
   rw[hf]
   refine Ev.step (f:=fun k=>impl_packed.l0 k (out++[r.getD i 0]) r a1 ((i+1:Nat):Int)) (fun k=>?_) (by simpa using e1)
   simp only[impl_packed.l0]
   rw[if_pos om,hrd,if_pos hx,if_pos om,hw]
  ·have hne2:out≠[]∨i+1=0∧r.getD 0 0≤a1:=by
    rcases hne with h|⟨h,h2⟩
    ·exact .inl h
    ·subst h;exact absurd h2 hx
   have e1:=ih (i+1) out om om hne2
   have hf:(r.drop i).filter (fun x=>decide (x≤a1))=(r.drop (i+1)).filter (fun x=>decide (x≤a1)):=by
    rw[hdr,List.filter_cons_of_neg (by simpa using hx)]
   rw[hf]
   refine Ev.step (f:=fun k=>impl_packed.l0 k out r a1 ((i+1:Nat):Int)) (fun k=>?_) e1
   simp only[impl_packed.l0]
   rw[if_pos om,hrd,if_neg hx,hw]
theorem rootR_of {q:List Int} (hq:quadB q=true) (hd:dwn q<0):rootR q=(sortI q,true):=by
 have h0:runD 200 q=[]:=by
  show(if 0≤dwn q then nxt q::runD 199 (nxt q)else[])=[]
  rw[if_neg om]
 have hp:pathR q=([q],true):=by
  unfold pathR
  rw[h0,if_pos ⟨hq,by simp⟩]
 unfold rootR
 rw[hp]
 rfl
theorem sort_head {q:List Int} {x:Int} (h:x∈q):rd (sortI q) 0≤x:=by
 have hm:=(sortI_perm q).mem_iff.2 h
 have hp:=sortI_pw q
 cases hs:sortI q with
 |nil=>rw[hs]at hm;cases hm
 |cons y ys=>
  rw[hs]at hm hp
  have:rd (y::ys) 0=y:=by simp[rd]
  rw[this]
  rcases List.mem_cons.1 hm with rfl|hm
  ·exact Int.le_refl _
  ·exact(List.pairwise_cons.1 hp).1 x hm
theorem packed_ev {q:List Int} (hq:quadB q=true) (hd:dwn q<0) {x:Int} (hx:x∈q) (hx0:x<0) {a1:Int} (h1:1≤a1) (h2:a1≤500):
 ∃L:List Int,Ev (fun k=>impl_packed.f k q a1) (sortI L,true)∧L.Perm (q.filter (fun x=>decide (x≤a1))++(dfs a1 22 q none).map (cwI q))∧(dfs a1 22 q none).length≤100000000000∧InvT 0 q (-1):=by
 have hr:=rootR_of hq hd
 have hR:=rootI_ev q
 rw[hr]at hR
 have hneg:rd (sortI q) 0<0:=by have:=sort_head hx;omega
 obtain⟨hI,x',y,z,u,hxs,n0,n1,n2,n3⟩:=root_inv (q:=q) (by rw[hr]) (by rw[hr];exact hneg)
 rw[hr]at hI hxs
 simp only at hI hxs
 have h4:=quad_len hq
 obtain⟨σ,τ,ho⟩:=perm_Ord (sortI_perm q).symm h4
 have hds:=dfs_ord ho a1 22
 have h00:(sortI q).getD 0 0=x':=by rw[hxs];rfl
 have e1:=packed_l hI a1 h2 4 0 [] rfl (Nat.le_refl _) (.inr ⟨rfl,by rw[h00];omega⟩)
 refine⟨(sortI q).filter (fun x=>decide (x≤a1))++(dfs a1 22 (sortI q) none).map (cwI (sortI q)),?_,List.Perm.append ((sortI_perm q).filter _) hds,?_,?_⟩
 ·unfold impl_packed.f
  refine Ev.bind hR ?_
  have hl4:(0:Int)<((sortI q).length:Int):=by rw[sortI_len,h4];decide
  simp only[if_true,if_pos hl4,if_neg (show¬rd (sortI q) 0≥0 by omega)]
  have hin:impl_within.f a1 1 500=some true:=by rw[within_f,inB_of ⟨h1,h2⟩]
  simp only[hin,Option.bind_some,if_true]
  refine Ev.bind (a:=sortI ((sortI q).filter (fun x=>decide (x≤a1))++(dfs a1 22 (sortI q) none).map (cwI (sortI q)))) (by simpa using e1) ?_
  exact Ev.now _
 ·have:=hds.length_eq
  rw[List.length_map,List.length_map]at this
  rw[←this]
  exact(circ_ev hI a1 h2 [] sm).2
 ·refine⟨hq,fun i j hi hj hne=>?_,by rw[ho.s];exact hI.sum,fun j hj _=>?_⟩
  ·have e1:=ho.g (τ i) (ho.b i hi)
   have e2:=ho.g (τ j) (ho.b j hj)
   rw[ho.c i hi]at e1
   rw[ho.c j hj]at e2
   rw[←e1,←e2]
   exact hI.pos _ _ (ho.b i hi) (ho.b j hj) (fun e=>hne (by rw[←ho.c i hi,←ho.c j hj,e]))
  ·have e1:=ho.g (τ j) (ho.b j hj)
   rw[ho.c j hj]at e1
   rw[←e1,ho.s]
   exact hI.inc _ (ho.b j hj) om
def K4 (l:List S37):Prop:=∃a b c d,l=[a,b,c,d]∧(qf a=1∧qf b=1∧qf c=1∧qf d=1)∧twi a b= -2∧twi a c= -2∧twi a d= -2∧twi b c= -2∧twi b d= -2∧twi c d= -2
theorem K4_len {l:List S37} (h:K4 l):l.length=4:=by
 obtain⟨a,b,c,d,rfl,_⟩:=h
 rfl
theorem K4_swc {l:List S37} (h:K4 l) {i:Nat} (hi:i<4):K4 (swc l i):=by
 obtain⟨a,b,c,d,rfl,⟨qa,qb,qc,qd⟩,ab,ac,ad,bc,bd,cd⟩:=h
 unfold swc
 match i,hi with
 |0,_=>
  rw[nc0]
  obtain⟨m0,m1,m2,m3⟩:=mix_ok qa qb qc qd ab ac ad bc bd cd
  exact⟨_,b,c,d,rfl,⟨m0,qb,qc,qd⟩,m1,m2,m3,bc,bd,cd⟩
 |1,_=>
  rw[nc1]
  obtain⟨m0,m1,m2,m3⟩:=mix_ok qb qa qc qd (by rw[twi_comm];exact ab) bc bd ac ad cd
  exact⟨a,_,c,d,rfl,⟨qa,m0,qc,qd⟩,by rw[twi_comm];exact m1,ac,ad,m2,m3,cd⟩
 |2,_=>
  rw[nc2]
  obtain⟨m0,m1,m2,m3⟩:=mix_ok qc qa qb qd (by rw[twi_comm];exact ac) (by rw[twi_comm];exact bc) cd ab ad bd
  exact⟨a,b,_,d,rfl,⟨qa,qb,m0,qd⟩,ab,by rw[twi_comm];exact m1,ad,by rw[twi_comm];exact m2,bd,m3⟩
 |3,_=>
  rw[nc3]
  obtain⟨m0,m1,m2,m3⟩:=mix_ok qd qa qb qc (by rw[twi_comm];exact ad) (by rw[twi_comm];exact bd) (by rw[twi_comm];exact cd) ab ac bc
  exact⟨a,b,c,_,rfl,⟨qa,qb,qc,m0⟩,ab,ac,by rw[twi_comm];exact m1,bc,by rw[twi_comm];exact m2,by rw[twi_comm];exact m3⟩
 |(i+4),h=>omega
theorem swc_swc {l:List S37} (h:l.length=4) {i:Nat} (hi:i<4):swc (swc l i) i=l:=by
 match l,h with
 |[a,b,c,d],_=>
  unfold swc
  match i,hi with
  |0,_=>rw[nc0];simp only[List.set_cons_zero];rw[nc0,mix_mix]
  |1,_=>rw[nc1];simp only[List.set_cons_succ,List.set_cons_zero];rw[nc1,mix_mix]
  |2,_=>rw[nc2];simp only[List.set_cons_succ,List.set_cons_zero];rw[nc2,mix_mix]
  |3,_=>rw[nc3];simp only[List.set_cons_succ,List.set_cons_zero];rw[nc3,mix_mix]
  |(i+4),h=>omega
def runW (l:List S37) (w:List Nat):List S37:=w.foldl swc l
def redW:Option Nat→List Nat→Prop
 |_,[]=>True
 |p,i::w=>i<4∧p≠some i∧redW (some i) w
theorem redW_none {p:Option Nat} {w:List Nat} (h:redW p w):redW none w:=by
 cases w with
 |nil=>trivial
 |cons i w=>exact⟨h.1,by simp,h.2.2⟩
theorem redW_app {u v:List Nat}:∀{p:Option Nat},redW p (u++v)↔redW p u∧redW (match u.getLast? with|some i=>some i|none=>p) v:=by
 induction u with
 |nil=>intro p;simp[redW]
 |cons i u ih=>
  intro p
  simp only[List.cons_append,redW,ih]
  have e:(match (i::u).getLast? with|some i=>some i|none=>p)=(match u.getLast? with|some j=>some j|none=>some i):=by
   cases u with
   |nil=>rfl
   |cons a u=>rw[List.getLast?_cons_cons];cases h:(a::u).getLast? with
    |none=>simp at h
    |some x=>rfl
  rw[e]
  constructor
  ·rintro⟨a,b,c,d⟩;exact⟨⟨a,b,c⟩,d⟩
  ·rintro⟨⟨a,b,c⟩,d⟩;exact⟨a,b,c,d⟩
theorem redW_rev (w:List Nat):∀{p:Option Nat},redW p w→redW none w.reverse:=by
 induction w with
 |nil=>intro p _;trivial
 |cons i w ih=>
  intro p h
  rw[List.reverse_cons,redW_app]
  refine⟨ih h.2.2,?_⟩
  refine⟨h.1,?_,trivial⟩
  cases w with
  |nil=>simp
  |cons j w=>
   have:(j::w).reverse.getLast?=some j:=by simp
   rw[this]
   intro e
   have e2:j=i:=Option.some.inj e
   subst e2
   exact h.2.2.2.1 rfl
theorem runW_K4 (w:List Nat):∀{l:List S37} {p:Option Nat},K4 l→redW p w→K4 (runW l w):=by
 induction w with
 |nil=>intro l p h _;exact h
 |cons i w ih=>intro l p h hw;exact ih (K4_swc h hw.1) hw.2.2
theorem runW_back (w:List Nat):∀{l:List S37} {p:Option Nat},l.length=4→redW p w→runW (runW l w) w.reverse=l:=by
 induction w with
 |nil=>intro l p _ _;rfl
 |cons i w ih=>
  intro l p h hw
  have h4:(swc l i).length=4:=by rw[swc_length];exact h
  have:=ih h4 hw.2.2
  unfold runW at this ⊢
  rw[List.foldl_cons,List.reverse_cons,List.foldl_append,this]
  exact swc_swc h hw.1
def circW (l:List S37) (w:List Nat) (i:Nat):S37:=nc (runW l w) i
def Low (e:S37) (l:List S37) (p:Nat):Prop:=∃a b c d,l=[a,b,c,d]∧
 (twi e a+twi e b≤0∧twi e a+twi e c≤0∧twi e a+twi e d≤0∧twi e b+twi e c≤0∧twi e b+twi e d≤0∧twi e c+twi e d≤0)∧
 (twi e (l.getD p z37)≤ -2∧twi e (l.getD p z37)≤twi e a∧twi e (l.getD p z37)≤twi e b∧twi e (l.getD p z37)≤twi e c∧twi e (l.getD p z37)≤twi e d)
theorem tw_linr (e x y z w:S37):twi e (mix x y z w)=2*(twi e y+twi e z+twi e w)-twi e x:=by
 rw[twi_comm,tw_lin,twi_comm y e,twi_comm z e,twi_comm w e,twi_comm x e]
theorem Low_swc {e:S37} {l:List S37} {p i:Nat} (h:Low e l p) (hp:p<4) (hi:i<4) (hne:p≠i):Low e (swc l i) i∧twi e (nc l i)≤ -2:=by
 obtain⟨a,b,c,d,rfl,⟨h1,h2,h3,h4,h5,h6⟩,g0,g1,g2,g3,g4⟩:=h
 unfold swc Low
 match i,hi with
 |0,_=>
  rw[nc0]
  have e0:=tw_linr e a b c d
  match p,hp with
  |0,_=>exact absurd rfl hne
  |1,_|2,_|3,_=>
   simp only[List.getD_cons_succ,List.getD_cons_zero]at g0 g1 g2 g3 g4
   refine⟨⟨_,b,c,d,rfl,⟨om,om,om,om,om,om⟩,?_⟩,om⟩
   simp only[List.set_cons_zero,List.getD_cons_zero]
   exact⟨om,om,om,om,om⟩
  |(p+4),h=>omega
 |1,_=>
  rw[nc1]
  have e0:=tw_linr e b a c d
  match p,hp with
  |1,_=>exact absurd rfl hne
  |0,_|2,_|3,_=>
   simp only[List.getD_cons_succ,List.getD_cons_zero]at g0 g1 g2 g3 g4
   refine⟨⟨a,_,c,d,rfl,⟨om,om,om,om,om,om⟩,?_⟩,om⟩
   simp only[List.set_cons_succ,List.set_cons_zero,List.getD_cons_zero,List.getD_cons_succ]
   exact⟨om,om,om,om,om⟩
  |(p+4),h=>omega
 |2,_=>
  rw[nc2]
  have e0:=tw_linr e c a b d
  match p,hp with
  |2,_=>exact absurd rfl hne
  |0,_|1,_|3,_=>
   simp only[List.getD_cons_succ,List.getD_cons_zero]at g0 g1 g2 g3 g4
   refine⟨⟨a,b,_,d,rfl,⟨om,om,om,om,om,om⟩,?_⟩,om⟩
   simp only[List.set_cons_succ,List.set_cons_zero,List.getD_cons_zero,List.getD_cons_succ]
   exact⟨om,om,om,om,om⟩
  |(p+4),h=>omega
 |3,_=>
  rw[nc3]
  have e0:=tw_linr e d a b c
  match p,hp with
  |3,_=>exact absurd rfl hne
  |0,_|1,_|2,_=>
   simp only[List.getD_cons_succ,List.getD_cons_zero]at g0 g1 g2 g3 g4
   refine⟨⟨a,b,c,_,rfl,⟨om,om,om,om,om,om⟩,?_⟩,om⟩
   simp only[List.set_cons_succ,List.set_cons_zero,List.getD_cons_zero,List.getD_cons_succ]
   exact⟨om,om,om,om,om⟩
  |(p+4),h=>omega
 |(i+4),h=>omega
theorem Low_first {l:List S37} (h:K4 l) {k i:Nat} (hk:k<4) (hi:i<4):Low (l.getD k z37) (swc l i) i∧twi (l.getD k z37) (nc l i)≤ -2:=by
 obtain⟨a,b,c,d,rfl,⟨qa,qb,qc,qd⟩,ab,ac,ad,bc,bd,cd⟩:=h
 have sa:=tw_self a
 have sb:=tw_self b
 have sc:=tw_self c
 have sd:=tw_self d
 have ba:=twi_comm b a
 have ca:=twi_comm c a
 have da:=twi_comm d a
 have cb:=twi_comm c b
 have db:=twi_comm d b
 have dc:=twi_comm d c
 unfold swc Low
 match i,hi with
 |0,_=>
  rw[nc0]
  match k,hk with
  |0,_|1,_|2,_|3,_=>
   simp only[List.getD_cons_succ,List.getD_cons_zero]
   refine⟨⟨_,b,c,d,rfl,?_,?_⟩,?_⟩
   ·rw[tw_linr];exact⟨om,om,om,om,om,om⟩
   ·simp only[List.set_cons_zero,List.getD_cons_zero];rw[tw_linr];exact⟨om,om,om,om,om⟩
   ·rw[tw_linr];omega
  |(k+4),h=>omega
 |1,_=>
  rw[nc1]
  match k,hk with
  |0,_|1,_|2,_|3,_=>
   simp only[List.getD_cons_succ,List.getD_cons_zero]
   refine⟨⟨a,_,c,d,rfl,?_,?_⟩,?_⟩
   ·rw[tw_linr];exact⟨om,om,om,om,om,om⟩
   ·simp only[List.set_cons_succ,List.set_cons_zero,List.getD_cons_zero,List.getD_cons_succ];rw[tw_linr];exact⟨om,om,om,om,om⟩
   ·rw[tw_linr];omega
  |(k+4),h=>omega
 |2,_=>
  rw[nc2]
  match k,hk with
  |0,_|1,_|2,_|3,_=>
   simp only[List.getD_cons_succ,List.getD_cons_zero]
   refine⟨⟨a,b,_,d,rfl,?_,?_⟩,?_⟩
   ·rw[tw_linr];exact⟨om,om,om,om,om,om⟩
   ·simp only[List.set_cons_succ,List.set_cons_zero,List.getD_cons_zero,List.getD_cons_succ];rw[tw_linr];exact⟨om,om,om,om,om⟩
   ·rw[tw_linr];omega
  |(k+4),h=>omega
 |3,_=>
  rw[nc3]
  match k,hk with
  |0,_|1,_|2,_|3,_=>
   simp only[List.getD_cons_succ,List.getD_cons_zero]
   refine⟨⟨a,b,c,_,rfl,?_,?_⟩,?_⟩
   ·rw[tw_linr];exact⟨om,om,om,om,om,om⟩
   ·simp only[List.set_cons_succ,List.set_cons_zero,List.getD_cons_zero,List.getD_cons_succ];rw[tw_linr];exact⟨om,om,om,om,om⟩
   ·rw[tw_linr];omega
  |(k+4),h=>omega
 |(i+4),h=>omega
theorem Low_run (w:List Nat):∀{e:S37} {l:List S37} {p i:Nat},Low e l p→p<4→redW (some p) (w++[i])→twi e (circW l w i)≤ -2:=by
 induction w with
 |nil=>intro e l p i h hp hw;exact(Low_swc h hp hw.1 (fun e=>hw.2.1 (by rw[e]))).2
 |cons j w ih=>
  intro e l p i h hp hw
  have h1:=(Low_swc h hp hw.1 (fun e=>hw.2.1 (by rw[e]))).1
  exact ih h1 hw.1 hw.2.2
theorem far_A {l:List S37} (h:K4 l) {k:Nat} (hk:k<4) (w:List Nat) (i:Nat) (hw:redW none (w++[i])):twi (l.getD k z37) (circW l w i)≤ -2:=by
 cases w with
 |nil=>exact(Low_first h hk hw.1).2
 |cons j w=>exact Low_run w (Low_first h hk hw.1).1 hw.1 hw.2.2
theorem runW_app (l:List S37) (u v:List Nat):runW l (u++v)=runW (runW l u) v:=by unfold runW;rw[List.foldl_append]
theorem circ_get {l:List S37} (h:l.length=4) (w:List Nat) {i:Nat} (hi:i<4):(runW l (w++[i])).getD i z37=circW l w i:=by
 have h4:∀(w:List Nat) (l:List S37),l.length=4→(runW l w).length=4:=by
  intro w
  induction w with
  |nil=>intro l h;exact h
  |cons j w ih=>intro l h;exact ih (swc l j) (by rw[swc_length];exact h)
 rw[runW_app]
 show(swc (runW l w) i).getD i z37=nc (runW l w) i
 unfold swc
 have:=h4 w l h
 simp[List.getD_eq_getElem?_getD,List.getElem?_set_self (show i<(runW l w).length by omega)]
theorem parts {u v:List Nat} (h:u≠v):(∃b s,v=u++b::s)∨(∃b s,u=v++b::s)∨∃p a s b t,a≠b∧u=p++a::s∧v=p++b::t:=by
 induction u generalizing v with
 |nil=>
  cases v with
  |nil=>exact absurd rfl h
  |cons b s=>exact .inl ⟨b,s,rfl⟩
 |cons a u ih=>
  cases v with
  |nil=>exact .inr (.inl ⟨a,u,rfl⟩)
  |cons b v=>
   by_cases hab:a=b
   ·subst hab
    rcases ih (v:=v) (fun e=>h (by rw[e]))with⟨x,s,e⟩|⟨x,s,e⟩|⟨p,x,s,y,t,hxy,e1,e2⟩
    ·exact .inl ⟨x,s,by rw[e];rfl⟩
    ·exact .inr (.inl ⟨x,s,by rw[e];rfl⟩)
    ·exact .inr (.inr ⟨a::p,x,s,y,t,hxy,by rw[e1];rfl,by rw[e2];rfl⟩)
   ·exact .inr (.inr ⟨[],a,u,b,v,hab,rfl,rfl⟩)
theorem far_on {l:List S37} (h:K4 l) (u:List Nat) (i:Nat) (hu:redW none (u++[i])) (v:List Nat) (j:Nat) (b:Nat) (s:List Nat) (hv:redW none (v++[j])) (e:v++[j]=(u++[i])++b::s):twi (circW l u i) (circW l v j)≤ -2:=by
 have hi:i<4:=(redW_app.1 hu).2.1
 rw[←circ_get (K4_len h) u hi]
 obtain⟨t,j',e2⟩:∃t j',b::s=t++[j']:=⟨_,_,(List.dropLast_concat_getLast (l:=b::s) sm).symm⟩
 rw[e2,←List.append_assoc]at e
 obtain⟨e1,e3⟩:=List.append_inj' e rfl
 obtain rfl:j=j':=by simpa using e3
 have hc:circW l v j=circW (runW l (u++[i])) t j:=by unfold circW;rw[e1,runW_app]
 rw[hc]
 refine far_A (runW_K4 _ h hu) hi t j ?_
 rw[e1,List.append_assoc]at hv
 exact redW_none (redW_app.1 hv).2
theorem far_B {l:List S37} (h:K4 l) {u v:List Nat} {i j:Nat} (hu:redW none (u++[i])) (hv:redW none (v++[j])) (hne:u++[i]≠v++[j]):twi (circW l u i) (circW l v j)≤ -2:=by
 rcases parts hne with⟨b,s,e⟩|⟨b,s,e⟩|⟨p,a,s,b,t,hab,e1,e2⟩
 ·exact far_on h u i hu v j b s hv e
 ·rw[twi_comm]
  exact far_on h v j hv u i b s hu e
 ·have hi:i<4:=(redW_app.1 hu).2.1
  rw[←circ_get (K4_len h) u hi]
  have hu':=hu
  rw[e1,redW_app]at hu'
  have hv':=hv
  rw[e2,redW_app]at hv'
  have hK:=runW_K4 p h hu'.1
  have hback:runW (runW l (u++[i])) (a::s).reverse=runW l p:=by
   rw[e1,runW_app]
   exact runW_back (a::s) (K4_len hK) hu'.2
  obtain⟨t',e3⟩:∃t',b::t=t'++[j]:=by
   have e4:b::t=(b::t).dropLast++[(b::t).getLast sm]:=(List.dropLast_concat_getLast (l:=b::t) sm).symm
   rw[e4,←List.append_assoc]at e2
   obtain⟨_,e5⟩:=List.append_inj' e2 rfl
   have e6:j=(b::t).getLast sm:=by simpa using e5
   exact⟨_,by rw[e6];exact e4⟩
  have e7:v=p++t':=by
   rw[e3,←List.append_assoc]at e2
   exact(List.append_inj' e2 rfl).1
  have hc:circW l v j=circW (runW l (u++[i])) ((a::s).reverse++t') j:=by
   unfold circW
   rw[runW_app,hback,e7,runW_app]
  rw[hc]
  refine far_A (runW_K4 _ h hu) hi _ j ?_
  rw[List.append_assoc,←e3,redW_app]
  refine⟨redW_rev _ (redW_none hu'.2),?_⟩
  have hl:(a::s).reverse.getLast?=some a:=by simp
  rw[hl]
  refine⟨hv'.2.1,?_,hv'.2.2.2⟩
  intro e
  exact hab (Option.some.inj e)
theorem far_ne {x y:S37} (h:twi x y≤ -2) (hx:qf x=1):x≠y:=by
 rintro rfl
 have:=tw_self x
 omega
theorem cfg_K4 {l:List S37} (h:cfgB l=true):K4 l:=by
 obtain⟨a,b,c,d,rfl,⟨ha,hb,hc,hd⟩,ab,ac,ad,bc,bd,cd⟩:=cfgB_iff.1 h
 exact⟨a,b,c,d,rfl,⟨isC_q ha,isC_q hb,isC_q hc,isC_q hd⟩,ab,ac,ad,bc,bd,cd⟩
theorem qf_K4 {l:List S37} (h:K4 l) {k:Nat} (hk:k<4):qf (l.getD k z37)=1:=by
 obtain⟨a,b,c,d,rfl,⟨qa,qb,qc,qd⟩,_⟩:=h
 match k,hk with
 |0,_=>exact qa
 |1,_=>exact qb
 |2,_=>exact qc
 |3,_=>exact qd
 |(k+4),h=>omega
theorem nc_get {l:List S37} (h:l.length=4) {i:Nat} (hi:i<4):(swc l i).getD i z37=nc l i:=by
 unfold swc
 simp[List.getD_eq_getElem?_getD,List.getElem?_set_self (show i<l.length by omega)]
def bas (l:List S37) (most:Int):List S37:=l.filter (fun c=>decide (c.f1≤most))
def cw (l:List S37) (w:List Nat):S37:=nc (runW l w.dropLast) (w.getLastD 0)
def lastI (w:List Nat):Int:=match w.getLast? with
 |none=> -1
 |some i=>(i:Int)
def qe (l:List S37) (w:List Nat):S74:=⟨runW l w,lastI w⟩
def Inv (l:List S37) (most:Int) (x7:List S37) (x10:List S74) (a b:Nat):Prop:=∃W:List (List Nat),x10=([]::W).map (qe l)∧x7=bas l most++W.map (cw l)∧
 (∀w∈W,w≠[]∧redW none w∧cfgB (runW l w)=true)∧([]::W).Nodup∧(∀w∈W,∃p,([]::W)[p]?=some w.dropLast∧(p<a∨p=a∧w.getLastD 0<b))∧
 (∀(p:Nat) (u:List Nat) (i:Nat),([]::W)[p]?=some u→i<4→(p<a∨p=a∧i<b)→(i:Int)≠lastI u→(nc (runW l u) i).f1≤most→u++[i]∈W)∧(∀w∈W,(cw l w).f1≤most)
theorem Inv.skip {l:List S37} {most:Int} {x7:List S37} {x10:List S74} {a b:Nat} (h:Inv l most x7 x10 a b) (hb:b<4) (hs:∀u,rd_T74 x10 (a:Int)=qe l u→(b:Int)=lastI u∨¬(nc (runW l u) b).f1≤most):Inv l most x7 x10 a (b+1):=by
 obtain⟨W,h1,h2,h3,h4,h5,h6,h7⟩:=h
 refine⟨W,h1,h2,h3,h4,fun w hw=>by obtain⟨p,hp,hq⟩:=h5 w hw;exact⟨p,hp,om⟩,fun p u i hp hi hq hl hm=>?_,h7⟩
 by_cases hc:p<a∨p=a∧i<b
 ·exact h6 p u i hp hi hc hl hm
 ·obtain⟨rfl,rfl⟩:p=a∧i=b:=om
  have e:rd_T74 x10 (p:Int)=qe l u:=by
   unfold rd_T74
   rw[h1,Int.toNat_natCast,List.getD_eq_getElem?_getD,List.getElem?_map,hp]
   rfl
  rcases hs u e with h|h
  ·exact absurd h hl
  ·exact absurd hm h
theorem Inv.next {l:List S37} {most:Int} {x7:List S37} {x10:List S74} {a:Nat} (h:Inv l most x7 x10 a 4):Inv l most x7 x10 (a+1) 0:=by
 obtain⟨W,h1,h2,h3,h4,h5,h6,h7⟩:=h
 exact⟨W,h1,h2,h3,h4,fun w hw=>by obtain⟨p,hp,hq⟩:=h5 w hw;exact⟨p,hp,om⟩,fun p u i hp hi hq hl hm=>h6 p u i hp hi om hl hm,h7⟩
theorem Inv.len {l:List S37} {most:Int} {x7:List S37} {x10:List S74} {a b:Nat} (h:Inv l most x7 x10 a b):x10.length≤x7.length+1:=by
 obtain⟨W,rfl,rfl,_⟩:=h
 simp
theorem drop_last {w:List Nat} (h:w≠[]):w.dropLast++[w.getLastD 0]=w:=by
 have:=List.dropLast_concat_getLast h
 rw[List.getLastD_eq_getLast?,List.getLast?_eq_some_getLast h]
 exact this
theorem last_snoc (u:List Nat) (b:Nat):lastI (u++[b])=(b:Int):=by
 unfold lastI
 simp
theorem lastD_snoc (u:List Nat) (b:Nat):(u++[b]).getLastD 0=b:=by simp
theorem step_new {l:List S37} {most:Int} {x7:List S37} {x10:List S74} {a b:Nat} (hl:cfgB l=true) (h:Inv l most x7 x10 a b) (ha:a<x10.length) (hb:b<4):
 ∃u:List Nat,rd_T74 x10 (a:Int)=qe l u∧cfgB (runW l u)=true∧((b:Int)≠lastI u→nc (runW l u) b∉x7∧
  ((nc (runW l u) b).f1≤most→cfgB (swc (runW l u) b)=true→Inv l most (x7++[nc (runW l u) b]) (x10++[(⟨swc (runW l u) b,(b:Int)⟩:S74)]) a (b+1))):=by
 obtain⟨W,rfl,rfl,h3,h4,h5,h6,h7⟩:=h
 rw[List.length_map]at ha
 have hu:([]::W)[a]?=some (([]::W)[a]):=List.getElem?_eq_getElem ha
 generalize ([]::W)[a]=u at hu
 have hmem:u∈[]::W:=List.mem_of_getElem? hu
 have hK:=cfg_K4 hl
 have hred:redW none u:=by
  rcases List.mem_cons.1 hmem with rfl|hm
  ·trivial
  ·exact(h3 u hm).2.1
 have hcf:cfgB (runW l u)=true:=by
  rcases List.mem_cons.1 hmem with rfl|hm
  ·exact hl
  ·exact(h3 u hm).2.2
 refine⟨u,?_,hcf,fun hne=>?_⟩
 ·unfold rd_T74
  rw[Int.toNat_natCast,List.getD_eq_getElem?_getD,List.getElem?_map,hu]
  rfl
 ·have hv:redW none (u++[b]):=by
   rw[redW_app]
   refine⟨hred,?_⟩
   unfold lastI at hne
   cases hg:u.getLast? with
   |none=>exact⟨hb,by simp,trivial⟩
   |some i=>
    rw[hg]at hne
    refine⟨hb,?_,trivial⟩
    intro e
    have e2:i=b:=Option.some.inj e
    subst e2
    exact hne rfl
  have hnw:u++[b]∉W:=by
   intro hm
   obtain⟨p,hp,hq⟩:=h5 _ hm
   rw[List.dropLast_concat]at hp
   have hpl:p<([]::W).length:=(List.getElem?_eq_some_iff.1 hp).1
   have e:p=a:=(List.getElem?_inj hpl h4).1 (hp.trans hu.symm)
   rw[lastD_snoc]at hq
   omega
  have hK2:=runW_K4 u hK hred
  have hq1:qf (nc (runW l u) b)=1:=by
   have:=qf_K4 (K4_swc hK2 hb) hb
   rwa [nc_get (K4_len hK2) hb]at this
  refine⟨?_,fun hle hcf2=>?_⟩
  ·intro hm
   rcases List.mem_append.1 hm with hm|hm
   ·have hml:=(List.mem_filter.1 hm).1
    obtain⟨k,hk,e⟩:=List.getElem_of_mem hml
    have hk4:k<4:=by have:=K4_len hK;omega
    have hf:=far_A hK hk4 u b hv
    have e2:l.getD k z37=nc (runW l u) b:=by rw[List.getD_eq_getElem?_getD,List.getElem?_eq_getElem hk];exact e
    rw[e2]at hf
    exact far_ne hf hq1 rfl
   ·obtain⟨w,hw,e⟩:=List.mem_map.1 hm
    obtain⟨hw0,hw1,_⟩:=h3 w hw
    have hf:=far_B hK (u:=w.dropLast) (i:=w.getLastD 0) (v:=u) (j:=b) (by rw[drop_last hw0];exact hw1) hv (by rw[drop_last hw0];intro e2;rw[e2]at hw;exact hnw hw)
    have e2:circW l w.dropLast (w.getLastD 0)=nc (runW l u) b:=e
    rw[e2]at hf
    exact far_ne hf hq1 rfl
  ·have ew:runW l (u++[b])=swc (runW l u) b:=by rw[runW_app];rfl
   refine⟨W++[u++[b]],?_,?_,?_,?_,?_,?_,?_⟩
   ·simp only[List.map_cons,List.map_append,List.map_nil,List.cons_append]
    congr 3
    unfold qe
    rw[ew,last_snoc]
   ·rw[List.map_append,←List.append_assoc]
    congr 1
    simp only[List.map_cons,List.map_nil]
    unfold cw
    rw[List.dropLast_concat,lastD_snoc]
   ·intro w hw
    rcases List.mem_append.1 hw with hw|hw
    ·exact h3 w hw
    ·rw[List.mem_singleton]at hw
     subst hw
     exact⟨by simp,hv,by rw[ew];exact hcf2⟩
   ·rw[←List.cons_append,List.nodup_append]
    refine⟨h4,by simp,?_⟩
    intro x hx y hy e
    rw[List.mem_singleton]at hy
    subst hy
    subst e
    rcases List.mem_cons.1 hx with hx|hx
    ·simp at hx
    ·exact hnw hx
   ·intro w hw
    rcases List.mem_append.1 hw with hw|hw
    ·obtain⟨p,hp,hq⟩:=h5 w hw
     refine⟨p,?_,om⟩
     rw[←List.cons_append,List.getElem?_append_left (List.getElem?_eq_some_iff.1 hp).1]
     exact hp
    ·rw[List.mem_singleton]at hw
     subst hw
     refine⟨a,?_,.inr ⟨rfl,by rw[lastD_snoc];omega⟩⟩
     rw[List.dropLast_concat,←List.cons_append,List.getElem?_append_left ha]
     exact hu
   ·intro p v i hp hi hq hli hm
    rw[←List.cons_append]at hp
    have hpl:p<([]::W).length:=om
    rw[List.getElem?_append_left hpl]at hp
    by_cases hc:p<a∨p=a∧i<b
    ·exact List.mem_append_left _ (h6 p v i hp hi hc hli hm)
    ·obtain⟨rfl,rfl⟩:p=a∧i=b:=om
     rw[hu]at hp
     cases hp
     exact List.mem_append_right _ sm
   ·intro w hw
    rcases List.mem_append.1 hw with hw|hw
    ·exact h7 w hw
    ·rw[List.mem_singleton]at hw
     subst hw
     unfold cw
     rw[List.dropLast_concat,lastD_snoc]
     exact hle
theorem Ev.iff {α:Type} {c:Prop} [Decidable c] {f:Nat→Option α} {g:Nat→Option α} {r:α} (h:c) (hf:Ev f r):Ev (fun k=>if c then f k else g k) r:=by
 simp only[if_pos h]
 exact hf
theorem Ev.els {α:Type} {c:Prop} [Decidable c] {f:Nat→Option α} {g:Nat→Option α} {r:α} (h:¬c) (hg:Ev g r):Ev (fun k=>if c then f k else g k) r:=by
 simp only[if_neg h]
 exact hg
theorem vis_out {most:Int} {xs:List S37} {c:S37} (h:c.f1>most):vis most xs c=(xs,false):=by unfold vis;rw[if_pos h]
theorem vis_new {most:Int} {xs:List S37} {c:S37} (h:¬c.f1>most) (hn:c∉xs):vis most xs c=(xs++[c],true):=by unfold vis;rw[if_neg h,if_neg hn]
def Whole (l:List S37) (most:Int) (x7:List S37) (W:List (List Nat)):Prop:=x7=bas l most++W.map (cw l)∧(∀w∈W,w≠[]∧redW none w∧cfgB (runW l w)=true)∧W.Nodup∧
 (∀w∈W,w.dropLast=[]∨w.dropLast∈W)∧(∀u∈[]::W,∀i:Nat,i<4→(i:Int)≠lastI u→(nc (runW l u) i).f1≤most→u++[i]∈W)∧(∀w∈W,(cw l w).f1≤most)
theorem Inv.whole {l:List S37} {most:Int} {x7:List S37} {x10:List S74} {a b:Nat} (h:Inv l most x7 x10 a b) (ha:x10.length≤a):∃W,Whole l most x7 W:=by
 obtain⟨W,h1,h2,h3,h4,h5,h6,h7⟩:=h
 refine⟨W,h2,h3,(List.nodup_cons.1 h4).2,fun w hw=>?_,fun u hu i hi hl hm=>?_,h7⟩
 ·obtain⟨p,hp,_⟩:=h5 w hw
  rcases List.mem_cons.1 (List.mem_of_getElem? hp)with e|e
  ·exact .inl e
  ·exact .inr e
 ·obtain⟨p,hp,e⟩:=List.getElem_of_mem hu
  refine h6 p u i (by rw[List.getElem?_eq_getElem hp,e]) hi (.inl ?_) hl hm
  rw[h1,List.length_map]at ha
  omega
theorem bfs {l:List S37} {most:Int} (hl:cfgB l=true):∀(m a b:Nat) (x7:List S37) (x10:List S74),Inv l most x7 x10 a b→a<x10.length→b≤4→x7.length≤300→(302-a)*6+(5-b)≤m→
 ∃r,Ev (fun k=>spec_CirclesUpTo.l2 k most x7 x10 (a:Int) (b:Int)) r∧Ev (fun k=>impl_CirclesUpTo.l2 k most x7 x10 (a:Int) (b:Int)) r∧r.1.length≤300∧(r.2=true→∃W,Whole l most r.1 W)
 |0,a,b,x7,x10,hI,ha,hb,h7,hm=>by have:=hI.len;omega
 |m+1,a,b,x7,x10,hI,ha,hb,h7,hm=>by
  have hlen:=hI.len
  have wa:wrap64 ((a:Int)+1)=((a+1:Nat):Int):=by rw[wrap_id]<;>omega
  have wb:wrap64 ((b:Int)+1)=((b+1:Nat):Int):=by rw[wrap_id]<;>omega
  by_cases hb4:b=4
  ·subst hb4
   have c4:¬(((4:Nat):Int)<4):=om
   by_cases hn:a+1<x10.length
   ·obtain⟨r,h1,h2,h3⟩:=bfs hl m (a+1) 0 x7 x10 hI.next hn om h7 om
    refine⟨r,?_,?_,h3⟩
    ·refine Ev.step (fun k=>spec_CirclesUpTo.l2.eq_2 _ _ _ _ _ k) (Ev.els c4 ?_)
     rw[wa]
     exact Ev.step (fun k=>spec_CirclesUpTo.l1.eq_2 _ _ _ _ k) (Ev.iff om h1)
    ·refine Ev.step (fun k=>impl_CirclesUpTo.l2.eq_2 _ _ _ _ _ k) (Ev.els c4 ?_)
     rw[wa]
     exact Ev.step (fun k=>impl_CirclesUpTo.l1.eq_2 _ _ _ _ k) (Ev.iff om h2)
   ·refine⟨(x7,true),?_,?_,h7,fun _=>hI.next.whole om⟩
    ·refine Ev.step (fun k=>spec_CirclesUpTo.l2.eq_2 _ _ _ _ _ k) (Ev.els c4 ?_)
     rw[wa]
     exact Ev.step (fun k=>spec_CirclesUpTo.l1.eq_2 _ _ _ _ k) (Ev.els om (Ev.now _))
    ·refine Ev.step (fun k=>impl_CirclesUpTo.l2.eq_2 _ _ _ _ _ k) (Ev.els c4 ?_)
     rw[wa]
     exact Ev.step (fun k=>impl_CirclesUpTo.l1.eq_2 _ _ _ _ k) (Ev.els om (Ev.now _))
  ·have hb':b<4:=om
   obtain⟨u,hrd,hcf,hnew⟩:=step_new hl hI ha hb'
   have c4:((b:Nat):Int)<4:=om
   have ca:(0:Int)≤(a:Int):=om
   have cb:(0:Int)≤(b:Int):=om
   have cl:(a:Int)<(x10.length:Int):=om
   by_cases hlast:(b:Int)=lastI u
   ·obtain⟨r,h1,h2,h3⟩:=bfs hl m a (b+1) x7 x10 (hI.skip hb' (fun v e=> .inl (by have e2:=congrArg S74.f1 (hrd.symm.trans e);exact hlast.trans e2))) ha om h7 om
    refine⟨r,?_,?_,h3⟩
    ·refine Ev.step (fun k=>spec_CirclesUpTo.l2.eq_2 _ _ _ _ _ k) (Ev.iff c4 (Ev.iff ca (Ev.iff cl ?_)))
     rw[hrd,wb]
     exact Ev.iff hlast h1
    ·refine Ev.step (fun k=>impl_CirclesUpTo.l2.eq_2 _ _ _ _ _ k) (Ev.iff c4 (Ev.iff ca (Ev.iff cl ?_)))
     rw[hrd,wb]
     exact Ev.iff hlast h2
   ·obtain⟨hnin,hpush⟩:=hnew hlast
    have h4:=cfg_len hcf
    have hS:=ciSwap_ev (runW l u) h4 (cfg_bnd hcf) hb'
    have hM:=swapC_ev (runW l u) h4 (cfg_bnd hcf) hb'
    have hlen4:(b:Int)<((swc (runW l u) b).length:Int):=by rw[swc_length,h4];exact c4
    have hget:rd_T37 (swc (runW l u) b) (b:Int)=nc (runW l u) b:=swc_get om
    obtain⟨hci,hcs⟩:=cfg_swc hcf hb'
    by_cases hgt:(nc (runW l u) b).f1>most
    ·obtain⟨r,h1,h2,h3⟩:=bfs hl m a (b+1) x7 x10 (hI.skip hb' (fun v e=> .inr (by have e2:=congrArg S74.f0 (hrd.symm.trans e);simp only[qe]at e2;rw[←e2];omega))) ha om h7 om
     refine⟨r,?_,?_,h3⟩
     ·refine Ev.step (fun k=>spec_CirclesUpTo.l2.eq_2 _ _ _ _ _ k) (Ev.iff c4 (Ev.iff ca (Ev.iff cl ?_)))
      rw[hrd,wb]
      refine Ev.els hlast (Ev.bind hS (Ev.iff cb (Ev.iff hlen4 ?_)))
      rw[hget]
      exact Ev.iff hgt h1
     ·refine Ev.step (fun k=>impl_CirclesUpTo.l2.eq_2 _ _ _ _ _ k) (Ev.iff c4 (Ev.iff ca (Ev.iff cl ?_)))
      rw[hrd,wb]
      refine Ev.els hlast (Ev.bind hM (Ev.iff cb (Ev.iff hlen4 (Ev.iff om ?_))))
      simp only[hget,vis_out hgt]
      exact Ev.els (by decide) h2
    ·cases hin:inC (nc (runW l u) b)with
     |false=>
      rw[hin]at hci
      refine⟨([],false),?_,?_,by simp,fun h=>by cases h⟩
      ·refine Ev.step (fun k=>spec_CirclesUpTo.l2.eq_2 _ _ _ _ _ k) (Ev.iff c4 (Ev.iff ca (Ev.iff cl ?_)))
       rw[hrd,wb]
       refine Ev.els hlast (Ev.bind hS (Ev.iff cb (Ev.iff hlen4 ?_)))
       rw[hget]
       have hg:=ciGood_ev (nc (runW l u) b).f0 (nc (runW l u) b).f1 (nc (runW l u) b).f2 (nc (runW l u) b).f3
       rw[show isC ⟨(nc (runW l u) b).f0,(nc (runW l u) b).f1,(nc (runW l u) b).f2,(nc (runW l u) b).f3⟩=false from hci]at hg
       exact Ev.els hgt (Ev.bind hg (Ev.els (by decide) (Ev.now _)))
      ·rw[hin]at hM
       refine Ev.step (fun k=>impl_CirclesUpTo.l2.eq_2 _ _ _ _ _ k) (Ev.iff c4 (Ev.iff ca (Ev.iff cl ?_)))
       rw[hrd,wb]
       refine Ev.els hlast (Ev.bind hM (Ev.iff cb (Ev.iff hlen4 (Ev.iff om ?_))))
       simp only[hget,vis_new hgt hnin]
       exact Ev.iff (by first|trivial|rfl) (Ev.els (by decide) (Ev.now _))
     |true=>
      rw[hin]at hci hM
      have hg:=ciGood_ev (nc (runW l u) b).f0 (nc (runW l u) b).f1 (nc (runW l u) b).f2 (nc (runW l u) b).f3
      rw[show isC ⟨(nc (runW l u) b).f0,(nc (runW l u) b).f1,(nc (runW l u) b).f2,(nc (runW l u) b).f3⟩=true from hci]at hg
      by_cases h300:x7.length=300
      ·refine⟨([],false),?_,?_,by simp,fun h=>by cases h⟩
       ·refine Ev.step (fun k=>spec_CirclesUpTo.l2.eq_2 _ _ _ _ _ k) (Ev.iff c4 (Ev.iff ca (Ev.iff cl ?_)))
        rw[hrd,wb]
        refine Ev.els hlast (Ev.bind hS (Ev.iff cb (Ev.iff hlen4 ?_)))
        rw[hget]
        exact Ev.els hgt (Ev.bind hg (Ev.iff rfl (Ev.iff om (Ev.now _))))
       ·refine Ev.step (fun k=>impl_CirclesUpTo.l2.eq_2 _ _ _ _ _ k) (Ev.iff c4 (Ev.iff ca (Ev.iff cl ?_)))
        rw[hrd,wb]
        refine Ev.els hlast (Ev.bind hM (Ev.iff cb (Ev.iff hlen4 (Ev.iff om ?_))))
        simp only[hget,vis_new hgt hnin]
        exact Ev.iff (by first|trivial|rfl) (Ev.iff (by first|trivial|rfl) (Ev.iff (by simp only[List.length_append,List.length_cons,List.length_nil];omega) (Ev.now _)))
      ·obtain⟨r,h1,h2,h3⟩:=bfs hl m a (b+1) _ _ (hpush om (hcs hin)) (by simp;omega) om (by simp;omega) om
       refine⟨r,?_,?_,h3⟩
       ·refine Ev.step (fun k=>spec_CirclesUpTo.l2.eq_2 _ _ _ _ _ k) (Ev.iff c4 (Ev.iff ca (Ev.iff cl ?_)))
        rw[hrd,wb]
        refine Ev.els hlast (Ev.bind hS (Ev.iff cb (Ev.iff hlen4 ?_)))
        rw[hget]
        exact Ev.els hgt (Ev.bind hg (Ev.iff rfl (Ev.els om (Ev.iff om (Ev.iff om h1)))))
       ·refine Ev.step (fun k=>impl_CirclesUpTo.l2.eq_2 _ _ _ _ _ k) (Ev.iff c4 (Ev.iff ca (Ev.iff cl ?_)))
        rw[hrd,wb]
        refine Ev.els hlast (Ev.bind hM (Ev.iff cb (Ev.iff hlen4 (Ev.iff om ?_))))
        simp only[hget,vis_new hgt hnin]
        exact Ev.iff (by first|trivial|rfl) (Ev.iff (by first|trivial|rfl) (Ev.els (by simp only[List.length_append,List.length_cons,List.length_nil];omega) (Ev.iff om h2)))
theorem init_I {l:List S37} {most:Int} (hn:l.Nodup) (hl:l.length≤100) (r:List S37 × Bool) (h:Ev (fun k=>impl_CirclesUpTo.l1 k most (bas l most) [(⟨l,(-1)⟩:S74)] 0) r):∀(d i:Nat),i+d=l.length→Ev (fun k=>impl_CirclesUpTo.l0 k l most (bas (l.take i) most) (i:Int)) r
 |0,i,hi=>by
  refine Ev.step (fun k=>impl_CirclesUpTo.l0.eq_2 _ _ _ _ k) (Ev.els om ?_)
  rw[List.take_of_length_le om]
  exact h
 |d+1,i,hi=>by
  have hil:i<l.length:=om
  have wb:wrap64 ((i:Int)+1)=((i+1:Nat):Int):=by rw[wrap_id]<;>omega
  have ih:=init_I hn hl r h d (i+1) om
  have hlen:(bas (l.take i) most).length≤100:=by
   unfold bas
   have h1:=List.length_filter_le (fun c:S37=>decide (c.f1≤most)) (l.take i)
   rw[List.length_take]at h1
   omega
  refine Ev.step (fun k=>impl_CirclesUpTo.l0.eq_2 _ _ _ _ k) (Ev.iff om (Ev.iff om ?_))
  rw[wb,rdC_at hil]
  have et:l.take (i+1)=l.take i++[l[i]]:=by rw[List.take_succ_eq_append_getElem hil]
  have hnot:l[i]∉l.take i:=by
   intro hm
   obtain⟨j,hj,e⟩:=List.getElem_of_mem hm
   rw[List.length_take]at hj
   rw[List.getElem_take]at e
   have e2:l[j]?=l[i]?:=by rw[List.getElem?_eq_getElem om,List.getElem?_eq_getElem hil,e]
   have:=(List.getElem?_inj om hn).1 e2
   omega
  by_cases hgt:l[i].f1>most
  ·rw[vis_out hgt]
   have e:bas (l.take (i+1)) most=bas (l.take i) most:=by
    rw[et]
    unfold bas
    rw[List.filter_append]
    simp[show¬l[i].f1≤most by omega]
   rw[e]at ih
   exact ih
  ·rw[vis_new (xs:=bas (l.take i) most) hgt (fun hm=>hnot (List.mem_filter.1 hm).1)]
   have e:bas (l.take (i+1)) most=bas (l.take i) most++[l[i]]:=by
    rw[et]
    unfold bas
    rw[List.filter_append]
    simp[show l[i].f1≤most by omega]
   rw[e]at ih
   exact ih
theorem init_S {l:List S37} {most:Int} (hl:l.length≤100) (r:List S37 × Bool) (h:Ev (fun k=>spec_CirclesUpTo.l1 k most (bas l most) [(⟨l,(-1)⟩:S74)] 0) r):∀(d i:Nat),i+d=l.length→Ev (fun k=>spec_CirclesUpTo.l0 k l most (bas (l.take i) most) l (l.length:Int) (i:Int)) r
 |0,i,hi=>by
  refine Ev.step (fun k=>spec_CirclesUpTo.l0.eq_2 _ _ _ _ _ _ k) (Ev.els om ?_)
  rw[List.take_of_length_le om]
  exact h
 |d+1,i,hi=>by
  have hil:i<l.length:=om
  have wb:wrap64 ((i:Int)+1)=((i+1:Nat):Int):=by rw[wrap_id]<;>omega
  have ih:=init_S hl r h d (i+1) om
  have hlen:(bas (l.take i) most).length≤100:=by
   unfold bas
   have h1:=List.length_filter_le (fun c:S37=>decide (c.f1≤most)) (l.take i)
   rw[List.length_take]at h1
   omega
  refine Ev.step (fun k=>spec_CirclesUpTo.l0.eq_2 _ _ _ _ _ _ k) (Ev.iff om (Ev.iff om (Ev.iff om ?_)))
  rw[wb,rdC_at hil]
  have et:l.take (i+1)=l.take i++[l[i]]:=by rw[List.take_succ_eq_append_getElem hil]
  by_cases hgt:l[i].f1≤most
  ·have e:bas (l.take (i+1)) most=bas (l.take i) most++[l[i]]:=by
    rw[et]
    unfold bas
    rw[List.filter_append]
    simp[hgt]
   rw[e]at ih
   exact Ev.iff hgt (Ev.iff om ih)
  ·have e:bas (l.take (i+1)) most=bas (l.take i) most:=by
    rw[et]
    unfold bas
    rw[List.filter_append]
    simp[hgt]
   rw[e]at ih
   exact Ev.els hgt ih
theorem cfg_nodup {l:List S37} (h:cfgB l=true):l.Nodup:=by
 obtain⟨a,b,c,d,rfl,⟨qa,qb,qc,qd⟩,ab,ac,ad,bc,bd,cd⟩:=cfg_K4 h
 have n1:=far_ne (show twi a b≤ -2 by omega) qa
 have n2:=far_ne (show twi a c≤ -2 by omega) qa
 have n3:=far_ne (show twi a d≤ -2 by omega) qa
 have n4:=far_ne (show twi b c≤ -2 by omega) qb
 have n5:=far_ne (show twi b d≤ -2 by omega) qb
 have n6:=far_ne (show twi c d≤ -2 by omega) qc
 simp[n1,n2,n3,n4,n5,n6]
theorem search {l:List S37} {most:Int} (hl:cfgB l=true):∃r,Ev (fun k=>spec_CirclesUpTo.l0 k l most [] l (l.length:Int) 0) r∧Ev (fun k=>impl_CirclesUpTo.l0 k l most [] 0) r∧r.1.length≤300∧(r.2=true→∃W,Whole l most r.1 W):=by
 have h4:=cfg_len hl
 have hb:(bas l most).length≤4:=by
  unfold bas
  have:=List.length_filter_le (fun c:S37=>decide (c.f1≤most)) l
  omega
 have hI:Inv l most (bas l most) [(⟨l,(-1)⟩:S74)] 0 0:=⟨[],rfl,by simp,by simp,by simp,by simp,fun p u i _ _ h _ _=>by omega,by simp⟩
 obtain⟨r,h1,h2,h3⟩:=bfs hl _ 0 0 _ _ hI sm om om (Nat.le_refl _)
 refine⟨r,?_,?_,h3⟩
 ·have:=init_S (l:=l) (most:=most) om r (Ev.step (fun k=>spec_CirclesUpTo.l1.eq_2 _ _ _ _ k) (Ev.iff sm h1)) 4 0 om
  simpa[bas]using this
 ·have:=init_I (l:=l) (most:=most) (cfg_nodup hl) om r (Ev.step (fun k=>impl_CirclesUpTo.l1.eq_2 _ _ _ _ k) (Ev.iff sm h2)) 4 0 om
  simpa[bas]using this
theorem within_in (x lo hi:Int):impl_within.f x lo hi=some (inB lo hi x):=l1In_f x lo hi
theorem sort_ev (l:List Int) (hl:l.length≤900):Ev (fun k=>spec_apSorted.f k l) (foldR [] l):=by
 have:=apSorted_l l [] [] (by simpa using hl) (Nat.le_refl _)
 simpa[spec_apSorted.f]using this
theorem low_same {q:List Int} (h4:q.length=4):∃m,slices_Min_int_int.f q=some m∧0<((foldR [] q).length:Int)∧decide (rd (foldR [] q) 0≥0)=decide (m≥0):=by
 obtain⟨a,b,c,d,rfl⟩:=four h4
 refine⟨_,rfl,?_,?_⟩
 ·have:=(foldR_perm [a,b,c,d] []).length_eq
  simp only[List.nil_append,List.length_cons,List.length_nil]at this
  omega
 ·have hp:=foldR_perm [a,b,c,d] []
  have hs:=foldR_pw [a,b,c,d] [] List.Pairwise.nil
  rw[List.nil_append]at hp
  cases hf:foldR [] [a,b,c,d]with
  |nil=>rw[hf]at hp;have:=hp.length_eq;simp at this
  |cons x t=>
   rw[hf]at hp hs
   have e:rd (x::t) 0=x:=rfl
   rw[e]
   have hx:x∈[a,b,c,d]:=hp.mem_iff.1 (List.mem_cons_self)
   have hall:∀y∈[a,b,c,d],x≤y:=by
    intro y hy
    rcases List.mem_cons.1 (hp.mem_iff.2 hy)with rfl|hy
    ·exact Int.le_refl _
    ·exact(List.pairwise_cons.1 hs).1 y hy
   have ha:=hall a sm
   have hb:=hall b sm
   have hc:=hall c sm
   have hd:=hall d sm
   simp only[List.mem_cons,List.not_mem_nil,or_false]at hx
   show decide (x≥0)=decide (min (min (min a b) c) d≥0)
   rw[decide_eq_decide,ge_iff_le,ge_iff_le,Int.le_min,Int.le_min,Int.le_min]
   omega
theorem neg_mem {q:List Int} (h4:q.length=4) (h:rd (foldR [] q) 0<0):∃x∈q,x<0:=by
 have hp:=foldR_perm q []
 rw[List.nil_append]at hp
 have hl:=hp.length_eq
 cases hs:foldR [] q with
 |nil=>rw[hs]at hl;simp at hl;omega
 |cons y ys=>
  rw[hs]at h hp
  have e:rd (y::ys) 0=y:=by simp[rd]
  rw[e]at h
  exact⟨y,hp.mem_iff.1 sm,h⟩
theorem up_both (l:List S37) (most:Int) (hl:l.length≤1048576):∃r,Ev (fun k=>spec_CirclesUpTo.f k l most) r∧Ev (fun k=>impl_CirclesUpTo.f k l most) r∧r.1.length≤300∧(r.2=true→cfgB l=true∧1≤most∧most≤60∧quadB (l.map S37.f1)=true∧dwn (l.map S37.f1)<0∧(∃x∈l.map S37.f1,x<0)∧∃W,Whole l most r.1 W):=by
 have hS0:=ciConfig_ev l
 have hI0:=isConfig_ev l
 cases hc:cfgB l with
 |false=>
  rw[hc]at hS0 hI0
  refine⟨([],false),?_,?_,by simp,fun h=>by cases h⟩
  ·unfold spec_CirclesUpTo.f
   exact Ev.bind hS0 (Ev.els (by decide) (Ev.step (fun k=>spec_CirclesUpTo.j0.eq_2 _ _ _ k) (Ev.iff rfl (Ev.now _))))
  ·unfold impl_CirclesUpTo.f
   exact Ev.bind hI0 (Ev.els (by decide) (Ev.now _))
 |true=>
  rw[hc]at hS0 hI0
  have h4:=cfg_len hc
  cases hw:inB 1 60 most with
  |false=>
   refine⟨([],false),?_,?_,by simp,fun h=>by cases h⟩
   ·unfold spec_CirclesUpTo.f
    rw[l1In_f,hw]
    exact Ev.bind hS0 (Ev.iff rfl (Ev.bind (Ev.now _) (Ev.step (fun k=>spec_CirclesUpTo.j0.eq_2 _ _ _ k) (Ev.iff rfl (Ev.now _)))))
   ·unfold impl_CirclesUpTo.f
    rw[within_in,hw]
    exact Ev.bind hI0 (Ev.iff rfl (Ev.bind (Ev.now _) (Ev.els (by decide) (Ev.now _))))
  |true=>
   have hqS:Ev (fun k=>spec_ciCurvatures.f k l) (l.map S37.f1):=by
    have:=curvS_l l om l.length 0 [] om sm
    simpa[spec_ciCurvatures.f]using this
   have hqI:Ev (fun k=>impl_curvatures.f k l) (l.map S37.f1):=by
    have:=curvI_l l om l.length 0 [] om sm
    simpa[impl_curvatures.f]using this
   have hq4:(l.map S37.f1).length=4:=by simpa using h4
   generalize hqe:l.map S37.f1=q at hqS hqI hq4 ⊢
   have hgS:=apGood_ev q om
   have hgI:=isQuad_ev q
   have goS:∀r:List S37 × Bool,Ev (fun k=>spec_CirclesUpTo.j0 k l most false) r→Ev (fun k=>spec_CirclesUpTo.f k l most) r:=by
    intro r h
    unfold spec_CirclesUpTo.f
    rw[l1In_f,hw]
    exact Ev.bind hS0 (Ev.iff rfl (Ev.bind (Ev.now _) h))
   have hrej:Ev (fun k=>spec_CirclesUpTo.j1 k l most true) ([],false):=Ev.step (fun k=>spec_CirclesUpTo.j1.eq_2 _ _ _ k) (Ev.iff rfl (Ev.now _))
   cases hq:quadB q with
   |false=>
    rw[hq]at hgS hgI
    refine⟨([],false),goS _ (Ev.step (fun k=>spec_CirclesUpTo.j0.eq_2 _ _ _ k) (Ev.els (by decide) (Ev.bind hqS (Ev.bind hgS (Ev.els (by decide) hrej))))),?_,by simp,fun h=>by cases h⟩
    unfold impl_CirclesUpTo.f
    rw[within_in,hw]
    exact Ev.bind hI0 (Ev.iff rfl (Ev.bind (Ev.now _) (Ev.iff rfl (Ev.bind hqI (Ev.bind hgI (Ev.els (by decide) (Ev.now _)))))))
   |true=>
    rw[hq]at hgS hgI
    have hdS:=apDown_ev hq
    have hrI:=isRoot_ev hq
    rw[root_iff]at hrI
    by_cases hd:dwn q<0
    ·rw[decide_eq_true hd]at hrI
     obtain⟨m,hm,hpos,hsame⟩:=low_same hq4
     have hsS:=sort_ev q om
     cases hmn:decide (m≥0)with
     |true=>
      rw[hmn]at hsame
      refine⟨([],false),goS _ (Ev.step (fun k=>spec_CirclesUpTo.j0.eq_2 _ _ _ k) (Ev.els (by decide) (Ev.bind hqS (Ev.bind hgS (Ev.iff rfl (Ev.bind hdS (Ev.els om (Ev.bind hsS (Ev.iff hpos ?_))))))))),?_,by simp,fun h=>by cases h⟩
      ·rw[hsame]
       exact hrej
      ·unfold impl_CirclesUpTo.f
       rw[within_in,hw]
       refine Ev.bind hI0 (Ev.iff rfl (Ev.bind (Ev.now _) (Ev.iff rfl (Ev.bind hqI (Ev.bind hgI (Ev.iff rfl (Ev.bind hrI (Ev.iff rfl ?_))))))))
       rw[hm]
       exact Ev.bind (Ev.now _) (Ev.iff (of_decide_eq_true hmn) (Ev.now _))
     |false=>
      rw[hmn]at hsame
      obtain⟨r,h1,h2,h3,hW⟩:=search (most:=most) hc
      have hwr:=inB_iff.1 hw
      have hneg:=neg_mem hq4 (by have:=of_decide_eq_false hsame;omega)
      refine⟨r,goS _ (Ev.step (fun k=>spec_CirclesUpTo.j0.eq_2 _ _ _ k) (Ev.els (by decide) (Ev.bind hqS (Ev.bind hgS (Ev.iff rfl (Ev.bind hdS (Ev.els om (Ev.bind hsS (Ev.iff hpos ?_))))))))),?_,h3,fun h=>⟨rfl,hwr.1,hwr.2,rfl,hd,hneg,hW h⟩⟩
      ·rw[hsame]
       exact Ev.step (fun k=>spec_CirclesUpTo.j1.eq_2 _ _ _ k) (Ev.els (by decide) h1)
      ·unfold impl_CirclesUpTo.f
       rw[within_in,hw]
       refine Ev.bind hI0 (Ev.iff rfl (Ev.bind (Ev.now _) (Ev.iff rfl (Ev.bind hqI (Ev.bind hgI (Ev.iff rfl (Ev.bind hrI (Ev.iff rfl ?_))))))))
       rw[hm]
       exact Ev.bind (Ev.now _) (Ev.els (of_decide_eq_false hmn) h2)
    ·rw[decide_eq_false hd]at hrI
     refine⟨([],false),goS _ (Ev.step (fun k=>spec_CirclesUpTo.j0.eq_2 _ _ _ k) (Ev.els (by decide) (Ev.bind hqS (Ev.bind hgS (Ev.iff rfl (Ev.bind hdS (Ev.iff om hrej))))))),?_,by simp,fun h=>by cases h⟩
     unfold impl_CirclesUpTo.f
     rw[within_in,hw]
     exact Ev.bind hI0 (Ev.iff rfl (Ev.bind (Ev.now _) (Ev.iff rfl (Ev.bind hqI (Ev.bind hgI (Ev.iff rfl (Ev.bind hrI (Ev.els (by decide) (Ev.now _)))))))))
theorem nc_curv {l:List S37} (h4:l.length=4) {i:Nat} (hi:i<4):(nc l i).f1=sv (l.map S37.f1) i:=by
 have h2:((swc l i).map S37.f1).getD i 0=(swl (l.map S37.f1) i).getD i 0:=congrArg (fun q:List Int=>q.getD i 0) (curv_swc h4 hi)
 rw[swl_get (by rw[List.length_map];omega)]at h2
 rw[←h2]
 have e:(swc l i)[i]?=some (nc l i):=by
  unfold swc
  rw[List.getElem?_set_self om]
 rw[List.getD_eq_getElem?_getD,List.getElem?_map,e]
 rfl
def runI (q:List Int) (w:List Nat):List Int:=w.foldl swl q
theorem runW_curv:∀(w:List Nat) (l:List S37),l.length=4→(∀i∈w,i<4)→(runW l w).map S37.f1=runI (l.map S37.f1) w∧(runW l w).length=4
 |[],l,h,_=>⟨rfl,h⟩
 |i::w,l,h,hw=>by
  have hi:=hw i sm
  have:=runW_curv w (swc l i) (by rw[swc_length];exact h) (fun j hj=>hw j (by simp[hj]))
  rw[curv_swc h hi]at this
  exact this
theorem adm_snoc (most:Int) (i:Nat):∀(u:List Nat) (q:List Int) (p:Option Nat),adm most q p (u++[i])↔adm most q p u∧i<4∧(match u.getLast? with|some j=>some j|none=>p)≠some i∧sv (runI q u) i≤most
 |[],q,p=>by simp[adm,runI]
 |j::u,q,p=>by
  have ih:=adm_snoc most i u (swl q j) (some j)
  have e:(match (j::u).getLast? with|some i=>some i|none=>p)=(match u.getLast? with|some i=>some i|none=>some j):=by
   cases u with
   |nil=>rfl
   |cons a u=>rw[List.getLast?_cons_cons];cases h:(a::u).getLast? with
    |none=>simp at h
    |some x=>rfl
  simp only[List.cons_append,adm,ih,e]
  have e2:runI q (j::u)=runI (swl q j) u:=rfl
  rw[e2]
  constructor
  ·rintro⟨a,b,c,d,f⟩;exact⟨⟨a,b,c,d⟩,f⟩
  ·rintro⟨⟨a,b,c,d⟩,f⟩;exact⟨a,b,c,d,f⟩
theorem cwI_snoc (i:Nat):∀(u:List Nat) (q:List Int),cwI q (u++[i])=sv (runI q u) i
 |[],q=>rfl
 |j::u,q=>by
  rw[List.cons_append,cwI_cons sm]
  exact cwI_snoc i u (swl q j)
theorem redW_low {w:List Nat}:∀{p:Option Nat},redW p w→∀i∈w,i<4:=by
 induction w with
 |nil=>intro p _ i hi;cases hi
 |cons j w ih=>
  intro p h i hi
  rcases List.mem_cons.1 hi with rfl|hi
  ·exact h.1
  ·exact ih h.2.2 i hi
theorem redW_snoc {u:List Nat} {i:Nat} (h:redW none (u++[i])):i<4∧(i:Int)≠lastI u∧(match u.getLast? with|some j=>some j|none=>(none:Option Nat))≠some i:=by
 rw[redW_app]at h
 obtain⟨_,a,b,_⟩:=h
 refine⟨a,?_,?_⟩
 ·unfold lastI
  intro e
  cases hg:u.getLast? with
  |none=>rw[hg]at e;simp only at e;omega
  |some j=>
   rw[hg]at e b
   simp only at e
   exact b (by have:i=j:=om;rw[this])
 ·intro e
  cases hg:u.getLast? with
  |none=>rw[hg]at e;cases e
  |some j=>rw[hg]at e b;exact b e
theorem last_ne {u:List Nat} {i:Nat} (h:(match u.getLast? with|some j=>some j|none=>(none:Option Nat))≠some i):(i:Int)≠lastI u:=by
 unfold lastI
 intro e
 cases hg:u.getLast? with
 |none=>rw[hg]at e;simp only at e;omega
 |some j=>
  rw[hg]at e h
  simp only at e
  exact h (by have:j=i:=om;rw[this])
theorem cw_curv {l:List S37} (h4:l.length=4) {u:List Nat} {i:Nat} (hu:∀j∈u,j<4) (hi:i<4):(cw l (u++[i])).f1=sv (runI (l.map S37.f1) u) i:=by
 unfold cw
 rw[List.dropLast_concat,lastD_snoc]
 obtain⟨a,b⟩:=runW_curv u l h4 hu
 rw[nc_curv b hi,a]
theorem snoc_of {w:List Nat} (h:w≠[]):∃u i,w=u++[i]:=⟨w.dropLast,w.getLastD 0,(drop_last h).symm⟩
theorem whole_adm {l:List S37} {most:Int} {x7:List S37} {W:List (List Nat)} (h4:l.length=4) (h:Whole l most x7 W):∀(n:Nat) (w:List Nat),w.length=n→(w∈W↔w≠[]∧adm most (l.map S37.f1) none w)
 |0,w,hn=>by
  have:w=[]:=List.length_eq_zero_iff.1 hn
  subst this
  constructor
  ·intro hm;exact absurd rfl (h.2.1 [] hm).1
  ·rintro⟨a,_⟩;exact absurd rfl a
 |n+1,w,hn=>by
  obtain⟨u,i,rfl⟩:=snoc_of (w:=w) (fun e=>by rw[e]at hn;cases hn)
  have hul:u.length=n:=by simpa using hn
  have ih:=whole_adm h4 h n u hul
  obtain⟨h1,h2,h3,h5,h6,h7⟩:=h
  constructor
  ·intro hm
   refine⟨by simp,?_⟩
   obtain⟨_,hr,_⟩:=h2 _ hm
   obtain⟨r1,r2,r3⟩:=redW_snoc hr
   have hlow:=redW_low hr
   have hc:=h7 _ hm
   rw[cw_curv h4 (fun j hj=>hlow j (by simp[hj])) r1]at hc
   rw[adm_snoc]
   refine⟨?_,r1,r3,hc⟩
   have:=h5 _ hm
   rw[List.dropLast_concat]at this
   rcases this with rfl|hu
   ·trivial
   ·exact(ih.1 hu).2
  ·rintro⟨_,ha⟩
   rw[adm_snoc]at ha
   obtain⟨a,b,c,d⟩:=ha
   have hlow:=adm_low a
   have hu:u∈[]::W:=by
    by_cases hu0:u=[]
    ·rw[hu0];simp
    ·exact List.mem_cons_of_mem _ (ih.2 ⟨hu0,a⟩)
   refine h6 u hu i b (last_ne c) ?_
   obtain⟨e1,e2⟩:=runW_curv u l h4 hlow
   rw[nc_curv e2 b,e1]
   exact d
theorem whole_perm {l:List S37} {most:Int} {x7:List S37} {W:List (List Nat)} (h4:l.length=4) (h:Whole l most x7 W) (hI:InvT 0 (l.map S37.f1) (-1)) (hmo:most≤500):
 (x7.map S37.f1).Perm ((l.map S37.f1).filter (fun x=>decide (x≤most))++(dfs most 22 (l.map S37.f1) none).map (cwI (l.map S37.f1))):=by
 have hW:=whole_adm h4 h
 obtain⟨h1,h2,h3,h5,h6,h7⟩:=h
 have hp:W.Perm (dfs most 22 (l.map S37.f1) none):=by
  refine(List.perm_ext_iff_of_nodup h3 (dfs_nodup _ _ _ _)).2 (fun w=>?_)
  rw[hW w.length w rfl,dfs_mem]
  constructor
  ·rintro⟨a,b⟩
   have:=adm_len most hmo w 0 _ none hI om b
   exact⟨a,om,b⟩
  ·rintro⟨a,_,b⟩;exact⟨a,b⟩
 have e1:(bas l most).map S37.f1=(l.map S37.f1).filter (fun x=>decide (x≤most)):=by
  unfold bas
  rw[List.filter_map]
  rfl
 have e2:(W.map (cw l)).map S37.f1=W.map (cwI (l.map S37.f1)):=by
  rw[List.map_map]
  refine List.map_congr_left (fun w hw=>?_)
  obtain⟨u,i,rfl⟩:=snoc_of (h2 w hw).1
  have hlow:=redW_low (h2 _ hw).2.1
  show(cw l (u++[i])).f1=_
  rw[cw_curv h4 (fun j hj=>hlow j (by simp[hj])) (hlow i sm),cwI_snoc]
 rw[h1,List.map_append,e1,e2]
 exact List.Perm.append (List.Perm.refl _) (hp.map _)
theorem pw_filter4 {l:List S37} (h:K4 l):l.Pairwise (fun x y=>twi y x≤ -2):=by
 obtain⟨a,b,c,d,rfl,_,ab,ac,ad,bc,bd,cd⟩:=h
 simp only[List.pairwise_cons,List.mem_cons,List.not_mem_nil,or_false]
 refine⟨?_,?_,?_,by simp,List.Pairwise.nil⟩
 ·rintro x (rfl|rfl|rfl)<;>rw[twi_comm]<;>omega
 ·rintro x (rfl|rfl)<;>rw[twi_comm]<;>omega
 ·rintro x rfl;rw[twi_comm];omega
theorem whole_far {l:List S37} {most:Int} {x7:List S37} {W:List (List Nat)} (hl:cfgB l=true) (h:Whole l most x7 W):x7.Pairwise (fun x y=>twi y x≤ -2):=by
 have hK:=cfg_K4 hl
 obtain⟨h1,h2,h3,_⟩:=h
 rw[h1,List.pairwise_append]
 refine⟨(pw_filter4 hK).filter _,?_,?_⟩
 ·rw[List.pairwise_map]
  refine List.Pairwise.imp_of_mem (R:=fun u v=>u≠v) (fun{u v} hu hv hne=>?_) h3
  obtain⟨u',i,rfl⟩:=snoc_of (h2 u hu).1
  obtain⟨v',j,rfl⟩:=snoc_of (h2 v hv).1
  have:=far_B hK (h2 _ hv).2.1 (h2 _ hu).2.1 (fun e=>hne e.symm)
  unfold cw
  rw[List.dropLast_concat,lastD_snoc,List.dropLast_concat,lastD_snoc]
  exact this
 ·intro x hx y hy
  obtain⟨k,hk,rfl⟩:=List.getElem_of_mem (List.mem_filter.1 hx).1
  obtain⟨v,hv,rfl⟩:=List.mem_map.1 hy
  obtain⟨v',j,rfl⟩:=snoc_of (h2 v hv).1
  have h4:=K4_len hK
  have:=far_A hK (show k<4 by omega) v' j (h2 _ hv).2.1
  rw[List.getD_eq_getElem?_getD,List.getElem?_eq_getElem hk]at this
  rw[twi_comm]
  unfold cw
  rw[List.dropLast_concat,lastD_snoc]
  exact this
theorem whole_good {l:List S37} {most:Int} {x7:List S37} {W:List (List Nat)} (hl:cfgB l=true) (h:Whole l most x7 W):∀x∈x7,isC x=true∧x.f1≤most:=by
 obtain⟨h1,h2,h3,h5,h6,h7⟩:=h
 intro x hx
 rw[h1]at hx
 have hb:∀l:List S37,cfgB l=true→∀y∈l,isC y=true:=by
  intro l h y hy
  obtain⟨a,b,c,d,rfl,⟨ha,hb,hc,hd⟩,_⟩:=cfgB_iff.1 h
  simp at hy
  rcases hy with rfl|rfl|rfl|rfl<;>assumption
 rcases List.mem_append.1 hx with hx|hx
 ·obtain⟨a,b⟩:=List.mem_filter.1 hx
  exact⟨hb l hl x a,by simpa using b⟩
 ·obtain⟨w,hw,rfl⟩:=List.mem_map.1 hx
  refine⟨?_,h7 w hw⟩
  obtain⟨hne,hr,hc⟩:=h2 w hw
  obtain⟨u,i,rfl⟩:=snoc_of hne
  have hi:=redW_low hr i sm
  have h4:=(runW_curv u l (cfg_len hl) (fun j hj=>redW_low hr j (by simp[hj]))).2
  rw[runW_app]at hc
  have hm:nc (runW l u) i∈runW (runW l u) [i]:=by
   show nc (runW l u) i∈swc (runW l u) i
   unfold swc
   exact List.mem_iff_getElem.2 ⟨i,by simp;omega,by simp⟩
  have:=hb _ hc _ hm
  unfold cw
  rw[List.dropLast_concat,lastD_snoc]
  exact this
theorem tpS_2 (l:List S37) (n:Nat) (hn:l.length=n) (hn1:n≤100000) (hb:∀x∈l,bndC x) (i:Nat) (hi:i<n) (F:Nat)
 (hB:∀(k:Nat) (x6:List (List Int)),F<k→x6.length+(n-(i+1))*n≤1000000000000→spec_TouchingPairs.l1 k l x6 l (n:Int) ((i+1:Nat):Int)=some (x6++pairsOf (l.drop (i+1)) (i+1),true)) (c:S37) (hc:bndC c) (d:Nat):
 ∀(j k:Nat) (x6:List (List Int)),j+d=n→F+d+1<k→x6.length+d+(n-(i+1))*n≤1000000000000→
  spec_TouchingPairs.l2 k l x6 (i:Int) (j:Int) l (n:Int) (i:Int) c.f0 c.f1 c.f2 c.f3=some (x6++tl c (l.drop j) i j++pairsOf (l.drop (i+1)) (i+1),true):=by
 induction d with
 |zero=>
  intro j k x6 hj hk hx
  obtain⟨k,rfl⟩:∃m,k=m+1:=⟨k-1,om⟩
  simp only[spec_TouchingPairs.l2]
  rw[if_neg om,wrap_id om om,List.drop_of_length_le om,show((i:Int)+1)=((i+1:Nat):Int) by omega,hB k x6 om om]
  simp[tl]
 |succ d ih=>
  intro j k x6 hj hk hx
  obtain⟨k,rfl⟩:∃m,k=m+1:=⟨k-1,om⟩
  have hjl:j<l.length:=om
  simp only[spec_TouchingPairs.l2]
  rw[if_pos om,if_pos om,rdC_at hjl,ciTwice_f,twice_f hc (hb _ (List.getElem_mem hjl)),wrap_id om om]
  simp only[Option.bind_some]
  rw[List.drop_eq_getElem_cons hjl,tl,show((j:Int)+1)=((j+1:Nat):Int) by omega]
  by_cases ht:twi c l[j]= -2
  ·rw[if_pos ht,if_pos om,if_pos ht,ih (j+1) k _ om om (by simp;omega)]
   simp
  ·rw[if_neg ht,if_neg ht,ih (j+1) k _ om om om]
   simp
theorem tpS_1 (l:List S37) (n:Nat) (hn:l.length=n) (hn1:n≤100000) (hb:∀x∈l,bndC x) (d:Nat):
 ∀(i k:Nat) (x6:List (List Int)),i+d=n→d*(n+3)<k→x6.length+(n-i)*n≤1000000000000→spec_TouchingPairs.l1 k l x6 l (n:Int) (i:Int)=some (x6++pairsOf (l.drop i) i,true):=by
 induction d with
 |zero=>
  intro i k x6 hi hk hx
  obtain⟨k,rfl⟩:∃m,k=m+1:=⟨k-1,om⟩
  simp only[spec_TouchingPairs.l1]
  rw[if_neg om,List.drop_of_length_le om]
  simp[pairsOf]
 |succ d ih=>
  intro i k x6 hi hk hx
  obtain⟨k,rfl⟩:∃m,k=m+1:=⟨k-1,om⟩
  have hil:i<l.length:=om
  have e:(d+1)*(n+3)=d*(n+3)+(n+3):=by rw[Nat.add_mul];omega
  have e2:(n-i)*n=(n-(i+1))*n+n:=by rw[show n-i=(n-(i+1))+1 by omega,Nat.add_mul];omega
  simp only[spec_TouchingPairs.l1]
  rw[if_pos om,if_pos om,if_pos om,rdC_at hil,wrap_id om om,show((i:Int)+1)=((i+1:Nat):Int) by omega]
  rw[tpS_2 l n hn hn1 hb i om (d*(n+3)) (fun k x6 hk hx=>ih (i+1) k x6 om hk hx) l[i] (hb _ (List.getElem_mem hil)) (n-(i+1)) (i+1) k x6 om om om]
  rw[List.drop_eq_getElem_cons hil,pairsOf,List.append_assoc]
theorem tpS_0 (l:List S37) (hl:l.length≤40) (d:Nat):∀(i:Nat),i+d=l.length→∀R,((l.drop i).all isC=true→Ev (fun k=>spec_TouchingPairs.l1 k l [] l (l.length:Int) 0) R)→((l.drop i).all isC=false→R=([],false))→Ev (fun k=>spec_TouchingPairs.l0 k l l (l.length:Int) (i:Int)) R:=by
 induction d with
 |zero=>
  intro i hi R h1 _
  rw[List.drop_of_length_le om]at h1
  refine Ev.step (f:=fun k=>spec_TouchingPairs.l1 k l [] l (l.length:Int) 0) (fun k=>?_) (h1 rfl)
  simp only[spec_TouchingPairs.l0]
  rw[if_neg om]
 |succ d ih=>
  intro i hi R h1 h2
  have hil:i<l.length:=om
  have hg:=ciGood_ev l[i].f0 l[i].f1 l[i].f2 l[i].f3
  rw[List.drop_eq_getElem_cons hil,List.all_cons]at h1 h2
  refine Ev.step (f:=fun k=>(spec_ciGood.f k l[i].f0 l[i].f1 l[i].f2 l[i].f3).bind fun t=>if t=true then spec_TouchingPairs.l0 k l l (l.length:Int) ((i+1:Nat):Int)else some ([],false)) (fun k=>?_) ?_
  ·simp only[spec_TouchingPairs.l0]
   rw[if_pos om,if_pos om,if_pos om,rdC_at hil,wrap_id om om,show((i:Int)+1)=((i+1:Nat):Int) by omega]
  ·refine Ev.bind hg ?_
   show Ev (fun k=>if isC l[i]=true then _ else _) R
   cases hc:isC l[i]with
   |true=>
    rw[hc]at h1 h2
    simp only[Bool.true_and]at h1 h2
    simp only[if_true]
    exact ih (i+1) om R h1 h2
   |false=>
    rw[hc]at h2
    rw[h2 sm]
    simp only[Bool.false_eq_true,if_false]
    exact Ev.now _
def tgR (l:List S37):List (List Int)× Bool:=if l.length≤40∧l.all isC=true then(pairsOf l 0,true)else([],false)
theorem tpS_ev (l:List S37):Ev (fun k=>spec_TouchingPairs.f k l) (tgR l):=by
 unfold spec_TouchingPairs.f tgR
 by_cases h:(l.length:Int)>40
 ·simp only[if_pos h,if_neg (show¬(l.length≤40∧l.all isC=true) by omega)]
  exact Ev.now _
 ·have hl:l.length≤40:=om
  simp only[if_neg h,hl,true_and]
  have h0:=tpS_0 l hl l.length 0 om (if l.all isC=true then(pairsOf l 0,true)else([],false)) (fun hq=>by
   rw[List.drop_zero]at hq
   rw[if_pos hq]
   refine Ev.from (l.length*(l.length+3)) (fun k hk=>?_)
   have hm:l.length*l.length≤40*40:=Nat.mul_le_mul hl hl
   have:=tpS_1 l l.length rfl om (fun x hx=>isC_bnd (List.all_eq_true.1 hq x hx)) l.length 0 k [] om hk (by simp;omega)
   simpa using this) (fun hq=>by rw[List.drop_zero]at hq;rw[hq];simp)
  exact h0
theorem tpI_ev (l:List S37):Ev (fun k=>impl_TouchingPairs.f k l) (tgR l):=by
 unfold impl_TouchingPairs.f tgR impl_areCircles.f
 by_cases h:(l.length:Int)>40
 ·simp only[if_pos h,if_neg (show¬(l.length≤40∧l.all isC=true) by omega)]
  exact Ev.now _
 ·have hl:l.length≤40:=om
  simp only[if_neg h,hl,true_and,Option.bind_some]
  cases hq:l.all isC with
  |false=>simp only[Bool.false_eq_true,if_false];exact Ev.now _
  |true=>
   simp only[if_true]
   exact Ev.bind (touching_ev l om (fun x hx=>isC_bnd (List.all_eq_true.1 hq x hx))) (Ev.now _)
def lexP (p q:List Int):Prop:=∃a b c d:Nat,p=[(a:Int),(b:Int)]∧q=[(c:Int),(d:Int)]∧(a<c∨a=c∧b<d)
theorem tl_mem (c:S37):∀(ds:List S37) (i j:Nat) (p:List Int),p∈tl c ds i j→∃m:Nat,∃h:m<ds.length,twi c ds[m]= -2∧p=[(i:Int),((j+m:Nat):Int)]
 |[],i,j,p,h=>by cases h
 |d::ds,i,j,p,h=>by
  simp only[tl,List.mem_append]at h
  rcases h with h|h
  ·split at h
   ·rename_i ht
    rw[List.mem_singleton]at h
    exact⟨0,by simp,ht,by rw[h];rfl⟩
   ·cases h
  ·obtain⟨m,hm,ht,e⟩:=tl_mem c ds i (j+1) p h
   refine⟨m+1,by simpa using hm,by simpa using ht,?_⟩
   rw[e,show j+1+m=j+(m+1) by omega]
theorem pairs_mem:∀(l:List S37) (i:Nat) (p:List Int),p∈pairsOf l i→∃a b:Nat,∃ha:a<l.length,∃hb:b<l.length,a<b∧twi l[a] l[b]= -2∧p=[((i+a:Nat):Int),((i+b:Nat):Int)]
 |[],i,p,h=>by cases h
 |c::cs,i,p,h=>by
  simp only[pairsOf,List.mem_append]at h
  rcases h with h|h
  ·obtain⟨m,hm,ht,e⟩:=tl_mem c cs i (i+1) p h
   exact⟨0,m+1,by simp,by simpa using hm,om,by simpa using ht,by rw[e,show i+1+m=i+(m+1) by omega];rfl⟩
  ·obtain⟨a,b,ha,hb,hab,ht,e⟩:=pairs_mem cs (i+1) p h
   refine⟨a+1,b+1,by simpa using ha,by simpa using hb,om,by simpa using ht,?_⟩
   rw[e,show i+1+a=i+(a+1) by omega,show i+1+b=i+(b+1) by omega]
theorem tl_pw (c:S37):∀(ds:List S37) (i j:Nat),(tl c ds i j).Pairwise lexP
 |[],i,j=>List.Pairwise.nil
 |d::ds,i,j=>by
  simp only[tl]
  split
  ·rw[List.singleton_append,List.pairwise_cons]
   refine⟨fun q hq=>?_,tl_pw c ds i (j+1)⟩
   obtain⟨m,_,_,e⟩:=tl_mem c ds i (j+1) q hq
   exact⟨i,j,i,j+1+m,rfl,e,.inr ⟨rfl,om⟩⟩
  ·rw[List.nil_append]
   exact tl_pw c ds i (j+1)
theorem pairs_pw:∀(l:List S37) (i:Nat),(pairsOf l i).Pairwise lexP
 |[],i=>List.Pairwise.nil
 |c::cs,i=>by
  simp only[pairsOf]
  rw[List.pairwise_append]
  refine⟨tl_pw c cs i (i+1),pairs_pw cs (i+1),fun p hp q hq=>?_⟩
  obtain⟨m,_,_,e⟩:=tl_mem c cs i (i+1) p hp
  obtain⟨a,b,_,_,_,_,e2⟩:=pairs_mem cs (i+1) q hq
  exact⟨i,i+1+m,i+1+a,i+1+b,e,e2,.inl om⟩
theorem pairs_len (M:Nat):∀(l:List S37) (i:Nat),l.length≤M→(pairsOf l i).length≤l.length*M
 |[],i,_=>by simp[pairsOf]
 |c::cs,i,h=>by
  simp only[List.length_cons]at h
  have h1:=pairs_len M cs (i+1) om
  have h2:=tl_length c cs i (i+1)
  simp only[pairsOf,List.length_append,List.length_cons,Nat.add_mul,Nat.one_mul]
  omega
def bdT (x:Int):Prop:= -1000000≤x∧x≤1000000
def isc (a b c d:Int):Bool:=([a,b,c,d]:List Int).all (inB (-1000000) 1000000)&&((wrap64 ((wrap64 ((wrap64 (c*c))+(wrap64 (d*d))))-(wrap64 (a*b))))==1)
theorem isc_b {a b c d:Int} (h:isc a b c d=true):bdT a∧bdT b∧bdT c∧bdT d:=by
 unfold isc at h
 unfold bdT
 simp only[List.all_cons,List.all_nil,Bool.and_true,Bool.and_eq_true,inB_iff]at h
 exact⟨h.1.1,h.1.2.1,h.1.2.2.1,h.1.2.2.2⟩
theorem good_ev (a b c d:Int):Ev (fun k=>spec_ciGood.f k a b c d) (isc a b c d):=by
 have h:=l1All_ev (-1000000) 1000000 [a,b,c,d] sm
 unfold spec_ciGood.f
 refine Ev.bind h ?_
 unfold isc
 cases([a,b,c,d]:List Int).all (inB (-1000000) 1000000)with
 |true=>simp only[if_true];exact Ev.now _
 |false=>simp only[Bool.false_eq_true,if_false];exact Ev.now _
theorem isCircle_f (a b c d:Int):impl_IsCircle.f a b c d=some (isc a b c d):=by
 unfold impl_IsCircle.f impl_Circle_numbers.f impl_allWithin.f isc
 simp only[Option.bind_some]
 cases([a,b,c,d]:List Int).all (inB (-1000000) 1000000)with
 |true=>simp only[if_true,Bool.true_and]
 |false=>simp only[Bool.false_eq_true,if_false,Bool.false_and]
def tx (n:Int):ByteArray:=⟨(Lib.itoa n).toArray⟩
theorem mk_app (l m:List UInt8):(⟨l.toArray⟩:ByteArray)++⟨m.toArray⟩=⟨(l++m).toArray⟩:=by
 apply ByteArray.ext
 rw[ByteArray.data_append]
 simp
theorem mk_size (l:List UInt8):(⟨l.toArray⟩:ByteArray).size=l.length:=by simp[ByteArray.size]
theorem dec_small {u:Nat} (h:u<10):Lib.decDigits u=[UInt8.ofNat (48+u)]:=by rw[Lib.decDigits,dif_pos h]
theorem dec_big {u:Nat} (h:¬u<10):Lib.decDigits u=Lib.decDigits (u/10)++[UInt8.ofNat (48+u%10)]:=by rw[Lib.decDigits,dif_neg h]
theorem dec_len (u:Nat):(Lib.decDigits u).length≤u+1:=by
 induction u using Nat.strongRecOn with
 |_ u ih=>
  by_cases h:u<10
  ·rw[dec_small h];simp
  ·rw[dec_big h]
   have:=ih (u/10) om
   simp only[List.length_append,List.length_cons,List.length_nil]
   omega
theorem one_digit (d:Int) (h0:0≤d) (h1:d<10):strOfNums (([(wrap64 (48+d))%256]:List Int))=⟨([UInt8.ofNat (48+d.toNat)]:List UInt8).toArray⟩:=by
 rw[wrap_id om om]
 unfold strOfNums
 simp only[List.map_cons,List.map_nil]
 rw[show((48+d)%256).toNat=48+d.toNat by omega]
theorem l1Num_ev:∀(u:Nat),u≤100000000→Ev (fun k=>spec_l1Num.f k (u:Int)) ⟨(Lib.decDigits u).toArray⟩:=by
 intro u
 induction u using Nat.strongRecOn with
 |_ u ih=>
  intro hu
  refine Ev.step (fun _=>spec_l1Num.f.eq_2 _ _) ?_
  by_cases h:u<10
  ·simp only[if_pos (show(u:Int)<10 by omega)]
   rw[dec_small h,one_digit u om om,Int.toNat_natCast]
   exact Ev.now _
  ·simp only[if_neg (show¬(u:Int)<10 by omega)]
   have e1:wrap64 (Int.tdiv (u:Int) 10)=((u/10:Nat):Int):=by
    rw[Int.tdiv_eq_ediv_of_nonneg om]
    rw[wrap_id]<;>omega
   have e2:Int.tmod (u:Int) 10=((u%10:Nat):Int):=by
    rw[Int.tmod_eq_emod_of_nonneg om]
    omega
   rw[e1,e2]
   refine Ev.bind (ih (u/10) om om) ?_
   simp only[Option.bind_some]
   rw[one_digit _ om om,mk_size,mk_size,Int.toNat_natCast]
   have:=dec_len (u/10)
   rw[if_pos (by simp only[List.length_cons,List.length_nil];omega),mk_app,←dec_big h]
   exact Ev.now _
theorem tx_size {n:Int} (h:bdT n):(tx n).size≤1000002:=by
 unfold tx Lib.itoa
 rw[mk_size]
 have h1:=dec_len n.natAbs
 have h2:=dec_len n.toNat
 unfold bdT at h
 split
 ·simp only[List.length_cons];omega
 ·omega
theorem ciNumber_ev (n:Int) (h:bdT n):Ev (fun k=>spec_ciNumber.f k n) (tx n):=by
 unfold bdT at h
 unfold spec_ciNumber.f tx Lib.itoa
 by_cases hn:n<0
 ·simp only[if_pos hn]
  have e1:wrap64 (-n)=((n.natAbs:Nat):Int):=by rw[wrap_id]<;>omega
  rw[e1]
  refine Ev.bind (l1Num_ev n.natAbs om) ?_
  have:=dec_len n.natAbs
  rw[mk_size,if_pos om]
  rw[show(⟨#[45]⟩:ByteArray)=⟨([45]:List UInt8).toArray⟩from rfl,mk_app]
  exact Ev.now _
 ·simp only[if_neg hn]
  have e1:n=((n.toNat:Nat):Int):=om
  have:=l1Num_ev n.toNat om
  rw[←e1]at this
  exact Ev.bind this (Ev.now _)
def ctx (a b c d:Int):ByteArray:=((((((tx a++(⟨#[32]⟩:ByteArray))++tx b)++(⟨#[32]⟩:ByteArray))++tx c)++(⟨#[32]⟩:ByteArray))++tx d)
theorem sp_size:(⟨#[32]⟩:ByteArray).size=1:=rfl
theorem ciText_ev {a b c d:Int} (ha:bdT a) (hb:bdT b) (hc:bdT c) (hd:bdT d):Ev (fun k=>spec_ciText.f k a b c d) (ctx a b c d):=by
 have sa:=tx_size ha;have sb:=tx_size hb;have sc:=tx_size hc;have sd:=tx_size hd
 unfold spec_ciText.f
 refine Ev.bind (ciNumber_ev a ha) (Ev.iff om ?_)
 refine Ev.bind (ciNumber_ev b hb) (Ev.iff (by simp only[ByteArray.size_append,sp_size];omega) (Ev.iff (by simp only[ByteArray.size_append,sp_size];omega) ?_))
 refine Ev.bind (ciNumber_ev c hc) (Ev.iff (by simp only[ByteArray.size_append,sp_size];omega) (Ev.iff (by simp only[ByteArray.size_append,sp_size];omega) ?_))
 refine Ev.bind (ciNumber_ev d hd) (Ev.iff (by simp only[ByteArray.size_append,sp_size];omega) (Ev.now _))
theorem specText_ev (a b c d:Int):Ev (fun k=>spec_CircleText.f k a b c d) (if isc a b c d=true then(ctx a b c d,true)else(⟨#[]⟩,false)):=by
 unfold spec_CircleText.f
 refine Ev.bind (good_ev a b c d) ?_
 by_cases h:isc a b c d=true
 ·obtain⟨ha,hb,hc,hd⟩:=isc_b h
  simp only[if_pos h]
  exact Ev.bind (ciText_ev ha hb hc hd) (Ev.now _)
 ·simp only[if_neg h]
  exact Ev.now _
theorem join_f {a b c d:Int} (ha:bdT a) (hb:bdT b) (hc:bdT c) (hd:bdT d):strings_Join.f [tx a,tx b,tx c,tx d] ⟨#[32]⟩=some (ctx a b c d):=by
 have sa:=tx_size ha;have sb:=tx_size hb;have sc:=tx_size hc;have sd:=tx_size hd
 have e:(⟨(Lib.join ([tx a,tx b,tx c,tx d].map (·.data.toList)) (⟨#[32]⟩:ByteArray).data.toList).toArray⟩:ByteArray)=ctx a b c d:=by
  apply ByteArray.ext
  unfold ctx
  simp only[List.map_cons,List.map_nil,Lib.join_cons,Lib.joinTail,List.flatten_cons,List.flatten_nil,ByteArray.data_append]
  apply Array.ext'
  simp[List.append_assoc]
 have el:(Lib.join ([tx a,tx b,tx c,tx d].map (·.data.toList)) (⟨#[32]⟩:ByteArray).data.toList).length=(ctx a b c d).size:=by
  rw[←e,mk_size]
 unfold strings_Join.f
 rw[if_pos sm,if_pos (by rw[el];unfold ctx;simp only[ByteArray.size_append,sp_size];omega),e]
theorem itoa_f {n:Int} (h:bdT n):strconv_Itoa.f n=some (tx n):=by
 unfold bdT at h
 unfold strconv_Itoa.f
 rw[if_pos om,if_pos om]
 rfl
theorem words_ev {a b c d:Int} (ha:bdT a) (hb:bdT b) (hc:bdT c) (hd:bdT d):Ev (fun k=>impl_words.f k [a,b,c,d]) (ctx a b c d):=by
 refine Ev.from 5 ?_
 intro k hk
 obtain⟨k,rfl⟩:∃m,k=m+5:=⟨k-5,om⟩
 have w1:wrap64 (0+1)=1:=wrap_id om om
 have w2:wrap64 (1+1)=2:=wrap_id om om
 have w3:wrap64 (2+1)=3:=wrap_id om om
 have w4:wrap64 (3+1)=4:=wrap_id om om
 have r0:rd [a,b,c,d] 0=a:=rfl
 have r1:rd [a,b,c,d] 1=b:=rfl
 have r2:rd [a,b,c,d] 2=c:=rfl
 have r3:rd [a,b,c,d] 3=d:=rfl
 unfold impl_words.f
 have hl:(([a,b,c,d]:List Int).length:Int)=4:=rfl
 rw[hl]
 rw[impl_words.l0.eq_2,if_pos (by decide),if_pos (by decide),hl,if_pos (by decide),r0,itoa_f ha,Option.bind_some,if_pos (by decide),w1]
 rw[impl_words.l0.eq_2,if_pos (by decide),if_pos (by decide),hl,if_pos (by decide),r1,itoa_f hb,Option.bind_some,if_pos sm,w2]
 rw[impl_words.l0.eq_2,if_pos (by decide),if_pos (by decide),hl,if_pos (by decide),r2,itoa_f hc,Option.bind_some,if_pos sm,w3]
 rw[impl_words.l0.eq_2,if_pos (by decide),if_pos (by decide),hl,if_pos (by decide),r3,itoa_f hd,Option.bind_some,if_pos sm,w4]
 rw[impl_words.l0.eq_2,if_neg (by decide)]
 simp only[List.nil_append,List.cons_append]
 rw[join_f ha hb hc hd]
 rfl
theorem implText_ev (a b c d:Int):Ev (fun k=>impl_CircleText.f k a b c d) (if isc a b c d=true then(ctx a b c d,true)else(⟨#[]⟩,false)):=by
 unfold impl_CircleText.f impl_Circle_numbers.f
 rw[isCircle_f]
 simp only[Option.bind_some]
 by_cases h:isc a b c d=true
 ·obtain⟨ha,hb,hc,hd⟩:=isc_b h
  simp only[if_pos h]
  exact Ev.bind (words_ev ha hb hc hd) (Ev.now _)
 ·simp only[if_neg h]
  exact Ev.now _
def mk (l:List UInt8):ByteArray:=⟨l.toArray⟩
theorem mk_of (s:ByteArray):mk s.data.toList=s:=Lib.mk_data s
theorem mk_to (l:List UInt8):(mk l).data.toList=l:=by simp[mk]
theorem digit_nat {d:Nat} (h:d<10):(UInt8.ofNat (48+d)).toNat=48+d:=by
 rw[UInt8.toNat_ofNat']
 omega
theorem dec_digits:∀(u:Nat),∀x∈Lib.decDigits u,48≤x.toNat∧x.toNat≤57:=by
 intro u
 induction u using Nat.strongRecOn with
 |_ u ih=>
  intro x hx
  by_cases h:u<10
  ·rw[dec_small h,List.mem_singleton]at hx
   subst hx
   rw[digit_nat h];omega
  ·rw[dec_big h,List.mem_append,List.mem_singleton]at hx
   rcases hx with hx|rfl
   ·exact ih (u/10) om x hx
   ·rw[digit_nat om];omega
theorem itoa_ne (n:Int):∀x∈Lib.itoa n,x≠32:=by
 intro x hx e
 subst e
 unfold Lib.itoa at hx
 split at hx
 ·rcases List.mem_cons.1 hx with hx|hx
  ·exact absurd hx (by decide)
  ·have:=dec_digits _ _ hx
   exact absurd this.1 (by decide)
 ·have:=dec_digits _ _ hx
  exact absurd this.1 (by decide)
def pc (cur:List UInt8):List UInt8→List ByteArray
 |[]=>[mk cur]
 |b::r=>if b=32 then mk cur::pc [] r else pc (cur++[b]) r
theorem pc_run:∀(l r cur:List UInt8),(∀x∈l,x≠32)→pc cur (l++32::r)=mk (cur++l)::pc [] r
 |[],r,cur,_=>by rw[List.nil_append,pc,if_pos rfl,List.append_nil]
 |b::l,r,cur,h=>by
  rw[List.cons_append,pc,if_neg (h b sm),pc_run l r _ (fun x hx=>h x (by simp[hx])),List.append_assoc]
  rfl
theorem pc_end:∀(l cur:List UInt8),(∀x∈l,x≠32)→pc cur l=[mk (cur++l)]
 |[],cur,_=>by rw[pc,List.append_nil]
 |b::l,cur,h=>by
  rw[pc,if_neg (h b sm),pc_end l _ (fun x hx=>h x (by simp[hx])),List.append_assoc]
  rfl
theorem ctx_data (a b c d:Int):(ctx a b c d).data.toList=Lib.itoa a++32::(Lib.itoa b++32::(Lib.itoa c++32::Lib.itoa d)):=by
 unfold ctx tx
 simp[ByteArray.data_append,List.append_assoc]
theorem pc_ctx (a b c d:Int):pc [] (ctx a b c d).data.toList=[tx a,tx b,tx c,tx d]:=by
 rw[ctx_data,pc_run _ _ _ (itoa_ne a),pc_run _ _ _ (itoa_ne b),pc_run _ _ _ (itoa_ne c),pc_end _ _ (itoa_ne d)]
 rfl
theorem bt_nat (s:ByteArray) (i:Nat) (h:i<s.data.toList.length):bt s (i:Int)=((s.data.toList[i]).toNat:Int):=by
 have h2:((i:Int)).toNat<s.size:=by rw[Lib.size_eq];omega
 unfold bt
 rw[dif_pos h2]
 rfl
theorem ext_mk (s:ByteArray) (a b:Nat):s.extract a b=mk ((s.data.toList.drop a).take (b-a)):=by
 rw[←Lib.extract_data,mk_of]
theorem ext_end (s:ByteArray) (a:Nat):s.extract a s.size=mk (s.data.toList.drop a):=by
 rw[←Lib.extract_to_end,mk_of]
theorem split_l (s:ByteArray) (hs:s.size≤1048576):∀(d i f k:Nat) (out:List ByteArray),i+d=s.size→f≤i→out.length≤i→d<k→
 spec_l1Split.l0 k s 32 out (f:Int) (i:Int)=some (out++pc ((s.data.toList.drop f).take (i-f)) (s.data.toList.drop i))
 |0,i,f,k,out,hi,hf,ho,hk=>by
  obtain⟨k,rfl⟩:∃m,k=m+1:=⟨k-1,om⟩
  have hz:=Lib.size_eq s
  rw[spec_l1Split.l0.eq_2,if_neg om,if_pos om,if_pos om,if_pos om,Int.toNat_natCast,ext_end]
  rw[List.drop_of_length_le (i:=i) om,pc,List.take_of_length_le (by rw[List.length_drop];omega)]
 |d+1,i,f,k,out,hi,hf,ho,hk=>by
  obtain⟨k,rfl⟩:∃m,k=m+1:=⟨k-1,om⟩
  have hz:=Lib.size_eq s
  have hl:i<s.data.toList.length:=om
  have ew:wrap64 ((i:Int)+1)=((i+1:Nat):Int):=by rw[wrap_id]<;>omega
  rw[spec_l1Split.l0.eq_2,if_pos om,if_pos om,bt_nat s i hl,ew,Int.toNat_natCast,Int.toNat_natCast]
  rw[List.drop_eq_getElem_cons hl,pc]
  by_cases hb:s.data.toList[i]=32
  ·rw[if_pos (by rw[hb];rfl),if_pos om,if_pos om,if_pos om,if_pos om,if_pos hb,ext_mk]
   rw[split_l s hs d (i+1) (i+1) k _ om (Nat.le_refl _) (by simp;omega) om,List.append_assoc,Nat.sub_self,List.take_zero]
   rfl
  ·rw[if_neg (by intro e;apply hb;apply UInt8.toNat.inj;have:((s.data.toList[i]).toNat:Int)=32:=e;show(s.data.toList[i]).toNat=32;omega),if_neg hb]
   rw[split_l s hs d (i+1) f k _ om om om om]
   have e:(s.data.toList.drop f).take (i+1-f)=(s.data.toList.drop f).take (i-f)++[s.data.toList[i]]:=by
    rw[show i+1-f=(i-f)+1 by omega,List.take_succ_eq_append_getElem (by rw[List.length_drop];omega),List.getElem_drop]
    simp[show f+(i-f)=i by omega]
   rw[e]
theorem split_ev (s:ByteArray) (hs:s.size≤1048576):Ev (fun k=>spec_l1Split.f k s 32) (pc [] s.data.toList):=
 Ev.from s.size (fun k hk=>by
  have:=split_l s hs s.size 0 0 k [] om (Nat.le_refl _) sm hk
  simpa[spec_l1Split.f]using this)
def rl:Int→List UInt8→Option Int
 |acc,[]=>some acc
 |acc,b::r=>if(b.toNat:Int)<48 then none else if(b.toNat:Int)>57 then none else if acc>1000000 then none else rl (10*acc+((b.toNat:Int)-48)) r
def rv (sg:Int):Option Int→Int
 |none=>1000001
 |some n=>wrap64 (sg*n)
theorem read_l (s:ByteArray) (hs:s.size≤1048576) (sg:Int):∀(d i k:Nat) (acc:Int),i+d=s.size→0≤acc→acc≤10000009→d<k→
 spec_ciRead.l0 k s sg acc (i:Int)=some (rv sg (rl acc (s.data.toList.drop i)))
 |0,i,k,acc,hi,h0,h1,hk=>by
  obtain⟨k,rfl⟩:∃m,k=m+1:=⟨k-1,om⟩
  have hz:=Lib.size_eq s
  rw[spec_ciRead.l0.eq_2,if_neg om,List.drop_of_length_le (i:=i) om]
  rfl
 |d+1,i,k,acc,hi,h0,h1,hk=>by
  obtain⟨k,rfl⟩:∃m,k=m+1:=⟨k-1,om⟩
  have hz:=Lib.size_eq s
  have hl:i<s.data.toList.length:=om
  have ew:wrap64 ((i:Int)+1)=((i+1:Nat):Int):=by rw[wrap_id]<;>omega
  rw[spec_ciRead.l0.eq_2,if_pos om,if_pos om,bt_nat s i hl,ew,List.drop_eq_getElem_cons hl,rl]
  by_cases c1:((s.data.toList[i]).toNat:Int)<48
  ·rw[if_pos c1,if_pos c1];rfl
  ·rw[if_neg c1,if_neg c1]
   by_cases c2:((s.data.toList[i]).toNat:Int)>57
   ·rw[if_pos c2,if_pos c2];rfl
   ·rw[if_neg c2,if_neg c2]
    by_cases c3:acc>1000000
    ·rw[if_pos c3,if_pos c3];rfl
    ·rw[if_neg c3,if_neg c3]
     rw[wrap_id (x:=10*acc) om om,show(((s.data.toList[i]).toNat:Int)-48)%256=((s.data.toList[i]).toNat:Int)-48 by omega,wrap_id om om]
     exact read_l s hs sg d (i+1) k _ om om om om
def crd (s:ByteArray):Int:=if s.data.toList.head?=some 45 then rv (-1) (rl 0 s.data.toList.tail)else rv 1 (rl 0 s.data.toList)
theorem read0 (s:ByteArray) (hs:s.size≤1048576) (sg:Int):Ev (fun k=>spec_ciRead.j1 k s sg) (rv sg (rl 0 s.data.toList)):=
 Ev.step (fun k=>spec_ciRead.j1.eq_2 s sg k) (Ev.from s.size (fun k hk=>by
  have:=read_l s hs sg s.size 0 k 0 om om om hk
  simpa using this))
theorem ciRead_ev (s:ByteArray) (hs:s.size≤1048576):Ev (fun k=>spec_ciRead.f k s) (crd s):=by
 have hz:=Lib.size_eq s
 unfold spec_ciRead.f crd
 cases hl:s.data.toList with
 |nil=>
  rw[hl]at hz
  simp only[List.length_nil]at hz
  simp only[show¬(s.size:Int)>0 by omega,if_false]
  refine Ev.step (fun k=>spec_ciRead.j0.eq_2 s 1 false k) ?_
  simp only[Bool.false_eq_true,if_false]
  have h1:=read0 s hs 1
  rw[hl]at h1
  exact h1
 |cons b r=>
  rw[hl]at hz
  simp only[List.length_cons]at hz
  have hb:bt s 0=(b.toNat:Int):=by
   have:=bt_nat s 0 (by rw[hl];simp)
   simpa[hl]using this
  simp only[show(s.size:Int)>0 by omega,if_true,show(0:Int)<(s.size:Int) by omega]
  refine Ev.step (fun k=>spec_ciRead.j0.eq_2 s 1 _ k) ?_
  rw[hb]
  simp only[List.head?_cons,List.tail_cons,Option.some.injEq]
  by_cases e:b=45
  ·subst e
   simp only[if_true,show(((45:UInt8).toNat:Int)==45)=true from rfl,show(1:Int)≤(s.size:Int) by omega]
   have h1:=read0 (s.extract 1 s.size) (by rw[Lib.size_eq,Lib.extract_to_end,List.length_drop,←Lib.size_eq];omega) (-1)
   rw[Lib.extract_to_end,hl,List.drop_succ_cons,List.drop_zero]at h1
   exact h1
  ·have e2:¬((b.toNat:Int)==45)=true:=by
    intro h
    apply e
    apply UInt8.toNat.inj
    have:=beq_iff_eq.1 h
    show b.toNat=45
    omega
   simp only[if_neg e,if_neg e2]
   rw[←hl]
   exact read0 s hs 1
theorem rl_snoc (b:UInt8):∀(l:List UInt8) (acc:Int),rl acc (l++[b])=(rl acc l).bind fun n=>rl n [b]
 |[],acc=>rfl
 |c::l,acc=>by
  rw[List.cons_append,rl,rl]
  split
  ·rfl
  ·split
   ·rfl
   ·split
    ·rfl
    ·exact rl_snoc b l _
theorem rl_dec:∀(u:Nat),u≤10000000→rl 0 (Lib.decDigits u)=some (u:Int):=by
 intro u
 induction u using Nat.strongRecOn with
 |_ u ih=>
  intro hu
  by_cases h:u<10
  ·rw[dec_small h,rl,digit_nat h,if_neg om,if_neg om,if_neg om,rl]
   congr 1
   omega
  ·rw[dec_big h,rl_snoc,ih (u/10) om om,Option.bind_some,rl,digit_nat om,if_neg om,if_neg om,if_neg om,rl]
   congr 1
   omega
theorem dec_ne (u:Nat):∃c r,Lib.decDigits u=c::r∧48≤c.toNat∧c.toNat≤57:=by
 cases h:Lib.decDigits u with
 |nil=>
  by_cases hu:u<10
  ·rw[dec_small hu]at h;cases h
  ·rw[dec_big hu]at h;simp at h
 |cons c r=>
  have:=dec_digits u c (by rw[h];simp)
  exact⟨c,r,rfl,this⟩
theorem tx_data (a:Int):(tx a).data.toList=Lib.itoa a:=by simp[tx]
theorem crd_tx {a:Int} (h:bdT a):crd (tx a)=a:=by
 unfold bdT at h
 unfold crd
 rw[tx_data]
 unfold Lib.itoa
 by_cases hn:a<0
 ·rw[if_pos hn,List.head?_cons,if_pos rfl,List.tail_cons,rl_dec _ om]
  show wrap64 (-1*(a.natAbs:Int))=a
  rw[wrap_id]<;>omega
 ·rw[if_neg hn]
  obtain⟨c,r,e,h1,h2⟩:=dec_ne a.toNat
  rw[if_neg (by
   rw[e,List.head?_cons,Option.some.injEq]
   intro e2
   subst e2
   exact absurd h1 (by decide)),rl_dec _ om]
  show wrap64 (1*(a.toNat:Int))=a
  rw[wrap_id]<;>omega
theorem pu_snoc (b:UInt8):∀(l:List UInt8) (acc n:Nat),Lib.parseUint10 acc l= .ok n→Lib.parseUint10 acc (l++[b])=Lib.parseUint10 n [b]
 |[],acc,n,h=>by
  simp only[Lib.parseUint10]at h
  injection h with h
  rw[h,List.nil_append]
 |c::l,acc,n,h=>by
  rw[List.cons_append]
  rw[Lib.parseUint10]at h ⊢
  split at h
  ·rename_i h1
   rw[if_pos h1]
   split at h
   ·cases h
   ·rename_i h2
    rw[if_neg h2]
    split at h
    ·cases h
    ·rename_i h3
     rw[if_neg h3]
     exact pu_snoc b l _ n h
  ·cases h
theorem pu_dec:∀(u:Nat),u≤10000000→Lib.parseUint10 0 (Lib.decDigits u)= .ok u:=by
 intro u
 induction u using Nat.strongRecOn with
 |_ u ih=>
  intro hu
  by_cases h:u<10
  ·rw[dec_small h,Lib.parseUint10,digit_nat h,if_pos om,if_neg om,if_neg om,Lib.parseUint10]
   congr 1
   omega
  ·rw[dec_big h,pu_snoc _ _ _ _ (ih (u/10) om om),Lib.parseUint10,digit_nat om,if_pos om,if_neg om,if_neg om,Lib.parseUint10]
   congr 1
   omega
theorem pm_dec (u:Nat) (hu:u≤10000000):Lib.parseMag (Lib.decDigits u)= .ok u:=by
 obtain⟨c,r,e,_,_⟩:=dec_ne u
 unfold Lib.parseMag
 rw[if_neg (by rw[e];simp),pu_dec u hu]
theorem atoi_tx {a:Int} (h:bdT a):Lib.atoiAll (tx a).data.toList= .ok a:=by
 unfold bdT at h
 rw[tx_data]
 unfold Lib.itoa
 by_cases hn:a<0
 ·rw[if_pos hn,Lib.atoiAll_minus,pm_dec _ om]
  unfold Lib.signed
  simp only
  rw[if_neg om]
  congr 1
  omega
 ·rw[if_neg hn]
  obtain⟨c,r,e,h1,h2⟩:=dec_ne a.toNat
  have:=pm_dec a.toNat om
  rw[e]at this ⊢
  rw[Lib.atoiAll_plain c r om om,this]
  unfold Lib.signless
  simp only
  rw[if_neg om]
  congr 1
  omega
theorem ib_run:∀(l r:List UInt8),(∀x∈l,x≠32)→Lib.indexByte (l++32::r) 32=(l.length:Int)
 |[],r,_=>rfl
 |b::l,r,h=>by
  have h1:=ib_run l r (fun x hx=>h x (by simp[hx]))
  rw[List.cons_append,Lib.indexByte,if_neg (by simpa using h b sm),h1,if_neg (by simp only[beq_iff_eq];omega)]
  simp
theorem ib_end:∀(l:List UInt8),(∀x∈l,x≠32)→Lib.indexByte l 32= -1
 |[],_=>rfl
 |b::l,h=>by
  rw[Lib.indexByte,if_neg (by simpa using h b sm),ib_end l (fun x hx=>h x (by simp[hx]))]
  rfl
theorem sk_run (k:Nat) (l r:List UInt8) (h:∀x∈l,x≠32):Lib.splitK [32] 0 (k+1) (l++32::r)=l::Lib.splitK [32] 0 k r:=by
 rw[Lib.splitK,Lib.index_one,ib_run l r h,if_neg (by simp only[beq_iff_eq];omega)]
 simp
theorem sk_end (k:Nat) (l:List UInt8) (h:∀x∈l,x≠32):Lib.splitK [32] 0 (k+1) l=[l]:=by
 rw[Lib.splitK,Lib.index_one,ib_end l h]
 rfl
theorem sb_mk (k:Nat) (s:ByteArray):Lib.splitB (⟨#[32]⟩:ByteArray) 0 k s=(Lib.splitK [32] 0 k s.data.toList).map mk:=by
 rw[show([32]:List UInt8)=(⟨#[32]⟩:ByteArray).data.toList from rfl,←Lib.splitB_data,List.map_map]
 have:(mk∘fun x:ByteArray=>x.data.toList)=id:=by
  funext x
  exact mk_of x
 rw[this,List.map_id]
theorem sk_len:∀(k:Nat) (l:List UInt8),∀x∈Lib.splitK [32] 0 k l,x.length≤l.length
 |0,l,x,hx=>by
  rw[Lib.splitK,List.mem_singleton]at hx
  rw[hx]
  exact Nat.le_refl _
 |k+1,l,x,hx=>by
  rw[Lib.splitK]at hx
  split at hx
  ·rw[List.mem_singleton]at hx
   rw[hx]
   exact Nat.le_refl _
  ·rcases List.mem_cons.1 hx with rfl|hx
   ·rw[List.length_take];omega
   ·have:=sk_len k _ x hx
    rw[List.length_drop]at this
    omega
def pieces (s:ByteArray):List ByteArray:=Lib.splitB (⟨#[32]⟩:ByteArray) 0 (min 5 (s.size+1)-1) s
theorem splitN_f (s:ByteArray) (hs:s.size≤1048576):strings_SplitN.f s (⟨#[32]⟩:ByteArray) 5=some (pieces s):=by
 unfold strings_SplitN.f
 rw[if_pos om,if_pos (by decide),if_pos (by decide),if_pos (by decide)]
 rfl
theorem pieces_len (s:ByteArray):(pieces s).length≤5:=by
 have:=Lib.splitB_length_le (⟨#[32]⟩:ByteArray) 0 (min 5 (s.size+1)-1) s
 unfold pieces
 omega
theorem pieces_size (s:ByteArray):∀x∈pieces s,x.size≤s.size:=by
 intro x hx
 unfold pieces at hx
 rw[sb_mk,List.mem_map]at hx
 obtain⟨y,hy,rfl⟩:=hx
 have:=sk_len _ _ y hy
 rw[Lib.size_eq,Lib.size_eq,mk_to]
 exact this
theorem pieces_ctx (a b c d:Int):pieces (ctx a b c d)=[tx a,tx b,tx c,tx d]:=by
 have hz:=Lib.size_eq (ctx a b c d)
 have hd:=congrArg List.length (ctx_data a b c d)
 simp only[List.length_append,List.length_cons]at hd
 obtain⟨c1,r1,e1,_⟩:=dec_ne a.natAbs
 have h4:min 5 ((ctx a b c d).size+1)-1=3+1∨min 5 ((ctx a b c d).size+1)-1=2+1:=om
 unfold pieces
 rcases h4 with h4|h4
 ·rw[h4,sb_mk,ctx_data,sk_run _ _ _ (itoa_ne a),sk_run _ _ _ (itoa_ne b),sk_run _ _ _ (itoa_ne c),sk_end _ _ (itoa_ne d)]
  rfl
 ·rw[h4,sb_mk,ctx_data,sk_run _ _ _ (itoa_ne a),sk_run _ _ _ (itoa_ne b),sk_run _ _ _ (itoa_ne c)]
  rfl
def av:List ByteArray→Option (List Int)
 |[]=>some []
 |w::r=>match Lib.atoiAll w.data.toList with
  | .ok v=>(av r).map (v:: ·)
  |_=>none
theorem tail_yes {a b c d:Int} (L:List ByteArray) (s:ByteArray) (h:isc a b c d=true) (he:ctx a b c d=s):Ev (fun k=>impl_ParseCircle.l0 k s [a,b,c,d] L (L.length:Int) (L.length:Int)) (a,b,c,d,true):=by
 obtain⟨ha,hb,hc,hd⟩:=isc_b h
 refine Ev.step (fun k=>impl_ParseCircle.l0.eq_2 _ _ _ _ _ k) ?_
 simp only[Int.lt_irrefl,if_false]
 simp only[List.length_cons,List.length_nil,show((0+1+1+1+1:Nat):Int)=4 from rfl,if_true,show(0:Int)<4 by decide,show(1:Int)<4 by decide,show(2:Int)<4 by decide,show(3:Int)<4 by decide]
 rw[show rd [a,b,c,d] 0=a from rfl,show rd [a,b,c,d] 1=b from rfl,show rd [a,b,c,d] 2=c from rfl,show rd [a,b,c,d] 3=d from rfl,isCircle_f,h]
 simp only[Option.bind_some,if_true]
 refine Ev.bind (words_ev ha hb hc hd) ?_
 rw[he,if_pos rfl]
 exact Ev.now _
theorem tail_no (vs:List Int) (L:List ByteArray) (s:ByteArray) (hno:∀a b c d,isc a b c d=true→ctx a b c d≠s):Ev (fun k=>impl_ParseCircle.l0 k s vs L (L.length:Int) (L.length:Int)) (0,0,0,0,false):=by
 refine Ev.step (fun k=>impl_ParseCircle.l0.eq_2 _ _ _ _ _ k) ?_
 simp only[Int.lt_irrefl,if_false]
 by_cases h4:(vs.length:Int)=4
 ·obtain⟨a,b,c,d,rfl⟩:∃a b c d,vs=[a,b,c,d]:=by
   match vs,h4 with
   |[a,b,c,d],_=>exact⟨a,b,c,d,rfl⟩
   |[],h=>simp at h
   |[_],h=>simp at h
   |[_,_],h=>simp at h
   |[_,_,_],h=>simp at h
   |_::_::_::_::_::r,h=>simp at h;omega
  simp only[List.length_cons,List.length_nil,show((0+1+1+1+1:Nat):Int)=4 from rfl,if_true,show(0:Int)<4 by decide,show(1:Int)<4 by decide,show(2:Int)<4 by decide,show(3:Int)<4 by decide]
  rw[show rd [a,b,c,d] 0=a from rfl,show rd [a,b,c,d] 1=b from rfl,show rd [a,b,c,d] 2=c from rfl,show rd [a,b,c,d] 3=d from rfl,isCircle_f]
  simp only[Option.bind_some]
  by_cases hg:isc a b c d=true
  ·obtain⟨ha,hb,hc,hd⟩:=isc_b hg
   simp only[hg,if_true]
   refine Ev.bind (words_ev ha hb hc hd) ?_
   rw[if_neg (by
    intro e
    exact hno a b c d hg (ByteArray.ext (Array.ext' (by simpa[ByteArray.toList_eq]using e))))]
   exact Ev.now _
  ·simp only[hg,if_false]
   exact Ev.now _
 ·simp only[h4,if_false]
  exact Ev.now _
theorem atoi_f {w:ByteArray} (h:w.size≤1048576):strconv_Atoi.f w=(match Lib.atoiAll w.data.toList with| .ok v=>some (v,none) | .range => some (Lib.atoiSat w.data.toList,some 1) | _ => some (0,some 2)):=by
 unfold strconv_Atoi.f
 rw[if_pos om]
 cases Lib.atoiAll w.data.toList<;>rfl
theorem loop_ev (s:ByteArray) (L:List ByteArray) (hL:L.length≤5) (hz:∀x∈L,x.size≤1048576) (r:Int × Int × Int × Int × Bool) (hbad:av L=none→r=(0,0,0,0,false)):∀(d i:Nat) (acc:List Int),i+d=L.length→acc.length≤i→
 (av (L.drop i)=none→av L=none)→(∀vs,av (L.drop i)=some vs→Ev (fun k=>impl_ParseCircle.l0 k s (acc++vs) L (L.length:Int) (L.length:Int)) r)→
 Ev (fun k=>impl_ParseCircle.l0 k s acc L (L.length:Int) (i:Int)) r
 |0,i,acc,hi,ha,hn,hy=>by
  have e:i=L.length:=om
  subst e
  have:=hy [] (by rw[List.drop_length];rfl)
  rwa [List.append_nil]at this
 |d+1,i,acc,hi,ha,hn,hy=>by
  have hl:i<L.length:=om
  have hlt:(i:Int)<(L.length:Int):=om
  have ew:wrap64 ((i:Int)+1)=((i+1:Nat):Int):=by rw[wrap_id]<;>omega
  have hr:rdOf ByteArray.empty L (i:Int)=L[i]:=by
   unfold rdOf
   rw[Int.toNat_natCast,List.getD_eq_getElem?_getD,List.getElem?_eq_getElem hl];rfl
  rw[List.drop_eq_getElem_cons hl]at hn hy
  refine Ev.step (fun k=>impl_ParseCircle.l0.eq_2 _ _ _ _ _ k) ?_
  simp only[hlt,if_true,show(0:Int)≤(i:Int) by omega,hr,atoi_f (hz _ (List.getElem_mem hl)),ew]
  rw[av]at hn hy
  cases hend:Lib.atoiAll (L[i]).data.toList with
  |ok v=>
   rw[hend]at hn hy
   simp only[Option.bind_some,Option.isNone_none,if_true,show acc.length<17592186044416 by omega]
   refine loop_ev s L hL hz r hbad d (i+1) (acc++[v]) om (by simp;omega) ?_ ?_
   ·intro h
    exact hn (by simp only[h,Option.map_none])
   ·intro vs h
    have:=hy (v::vs) (by simp only[h,Option.map_some])
    rwa [List.append_assoc]
  |_=>
   rw[hend]at hn
   simp only[Option.bind_some,Option.isNone_some,Bool.false_eq_true,if_false]
   rw[hbad (hn rfl)]
   exact Ev.now _
theorem impl_yes {a b c d:Int} (s:ByteArray) (hs:s.size≤1048576) (h:isc a b c d=true) (he:ctx a b c d=s):Ev (fun k=>impl_ParseCircle.f k s) (a,b,c,d,true):=by
 obtain⟨ha,hb,hc,hd⟩:=isc_b h
 unfold impl_ParseCircle.f
 rw[splitN_f s hs]
 simp only[Option.bind_some]
 have hp:pieces s=[tx a,tx b,tx c,tx d]:=by rw[←he,pieces_ctx]
 have hv:av (pieces s)=some [a,b,c,d]:=by
  rw[hp]
  simp only[av,atoi_tx ha,atoi_tx hb,atoi_tx hc,atoi_tx hd,Option.map_some]
 refine loop_ev s (pieces s) (pieces_len s) (fun x hx=>Nat.le_trans (pieces_size s x hx) hs) _ (fun h=>by rw[hv]at h;cases h) (pieces s).length 0 [] om sm (fun h=>by simpa using h) ?_
 intro vs hvs
 rw[List.drop_zero,hv]at hvs
 cases hvs
 exact tail_yes _ s h he
theorem impl_no (s:ByteArray) (hs:s.size≤1048576) (hno:∀a b c d,isc a b c d=true→ctx a b c d≠s):Ev (fun k=>impl_ParseCircle.f k s) (0,0,0,0,false):=by
 unfold impl_ParseCircle.f
 rw[splitN_f s hs]
 simp only[Option.bind_some]
 refine loop_ev s (pieces s) (pieces_len s) (fun x hx=>Nat.le_trans (pieces_size s x hx) hs) _ (fun _=>rfl) (pieces s).length 0 [] om sm (fun h=>by simpa using h) ?_
 intro vs _
 exact tail_no _ _ s hno
theorem four_of {l:List ByteArray} (h:(l.length:Int)=4):∃a b c d,l=[a,b,c,d]:=by
 match l,h with
 |[a,b,c,d],_=>exact⟨a,b,c,d,rfl⟩
 |[],h=>simp at h
 |[_],h=>simp at h
 |[_,_],h=>simp at h
 |[_,_,_],h=>simp at h
 |_::_::_::_::_::r,h=>simp at h;omega
theorem pc_size:∀(l cur:List UInt8),∀x∈pc cur l,x.size≤cur.length+l.length
 |[],cur,x,hx=>by
  rw[pc,List.mem_singleton]at hx
  rw[hx,Lib.size_eq,mk_to]
  omega
 |b::l,cur,x,hx=>by
  rw[pc]at hx
  split at hx
  ·rcases List.mem_cons.1 hx with rfl|hx
   ·rw[Lib.size_eq,mk_to,List.length_cons];omega
   ·have:=pc_size l [] x hx
    simp only[List.length_nil,List.length_cons]at this ⊢
    omega
  ·have:=pc_size l _ x hx
   simp only[List.length_append,List.length_cons,List.length_nil]at this ⊢
   omega
theorem spec_parse (s:ByteArray) (hs:s.size≤1048576) (r:Int × Int × Int × Int × Bool)
 (hr:∀w1 w2 w3 w4,pc [] s.data.toList=[w1,w2,w3,w4]→isc (crd w1) (crd w2) (crd w3) (crd w4)=true→r=(if ctx (crd w1) (crd w2) (crd w3) (crd w4)=s then(crd w1,crd w2,crd w3,crd w4,true)else(0,0,0,0,false)))
 (hf:¬(∃w1 w2 w3 w4,pc [] s.data.toList=[w1,w2,w3,w4]∧isc (crd w1) (crd w2) (crd w3) (crd w4)=true)→r=(0,0,0,0,false)):Ev (fun k=>spec_ParseCircle.f k s) r:=by
 unfold spec_ParseCircle.f
 refine Ev.bind (split_ev s hs) ?_
 by_cases h4:((pc [] s.data.toList).length:Int)=4
 ·obtain⟨w1,w2,w3,w4,e⟩:=four_of h4
  have hz:∀x∈pc [] s.data.toList,x.size≤1048576:=by
   intro x hx
   have:=pc_size _ _ x hx
   rw[←Lib.size_eq]at this
   simp only[List.length_nil]at this
   omega
  rw[e]at hz ⊢
  simp only[List.length_cons,List.length_nil,show((0+1+1+1+1:Nat):Int)=4 from rfl,if_true,show(0:Int)<4 by decide,show(1:Int)<4 by decide,show(2:Int)<4 by decide,show(3:Int)<4 by decide]
  rw[show rdOf ByteArray.empty [w1,w2,w3,w4] 0=w1 from rfl,show rdOf ByteArray.empty [w1,w2,w3,w4] 1=w2 from rfl,show rdOf ByteArray.empty [w1,w2,w3,w4] 2=w3 from rfl,show rdOf ByteArray.empty [w1,w2,w3,w4] 3=w4 from rfl]
  refine Ev.bind (ciRead_ev w1 (hz w1 sm)) ?_
  refine Ev.bind (ciRead_ev w2 (hz w2 sm)) ?_
  refine Ev.bind (ciRead_ev w3 (hz w3 sm)) ?_
  refine Ev.bind (ciRead_ev w4 (hz w4 sm)) ?_
  refine Ev.bind (good_ev _ _ _ _) ?_
  by_cases hg:isc (crd w1) (crd w2) (crd w3) (crd w4)=true
  ·obtain⟨ha,hb,hc,hd⟩:=isc_b hg
   rw[hr w1 w2 w3 w4 e hg]
   simp only[hg,if_true]
   refine Ev.bind (ciText_ev ha hb hc hd) ?_
   by_cases hq:ctx (crd w1) (crd w2) (crd w3) (crd w4)=s
   ·rw[if_pos hq,hq,if_pos rfl]
    exact Ev.now _
   ·rw[if_neg hq,if_neg (by
     intro e2
     exact hq (ByteArray.ext (Array.ext' (by simpa[ByteArray.toList_eq]using e2))))]
    exact Ev.now _
  ·rw[hf (by
    rintro⟨v1,v2,v3,v4,e2,hg2⟩
    rw[e]at e2
    cases e2
    exact hg hg2)]
   simp only[hg,if_false]
   exact Ev.now _
 ·rw[hf (by
   rintro⟨v1,v2,v3,v4,e2,_⟩
   rw[e2]at h4
   exact h4 rfl)]
  simp only[h4,if_false]
  exact Ev.now _
theorem spec_yes {a b c d:Int} (s:ByteArray) (hs:s.size≤1048576) (h:isc a b c d=true) (he:ctx a b c d=s):Ev (fun k=>spec_ParseCircle.f k s) (a,b,c,d,true):=by
 obtain⟨ha,hb,hc,hd⟩:=isc_b h
 have hp:pc [] s.data.toList=[tx a,tx b,tx c,tx d]:=by rw[←he,pc_ctx]
 refine spec_parse s hs _ ?_ ?_
 ·intro w1 w2 w3 w4 e _
  rw[hp]at e
  cases e
  rw[crd_tx ha,crd_tx hb,crd_tx hc,crd_tx hd,if_pos he]
 ·intro hn
  exact absurd ⟨tx a,tx b,tx c,tx d,hp,by rw[crd_tx ha,crd_tx hb,crd_tx hc,crd_tx hd];exact h⟩ hn
theorem spec_no (s:ByteArray) (hs:s.size≤1048576) (hno:∀a b c d,isc a b c d=true→ctx a b c d≠s):Ev (fun k=>spec_ParseCircle.f k s) (0,0,0,0,false):=by
 refine spec_parse s hs _ ?_ (fun _=>rfl)
 intro w1 w2 w3 w4 _ hg
 rw[if_neg (hno _ _ _ _ hg)]
theorem circle_ok {s:List Int} (hs:Bytes s) {a:Int} (z:Int) (h0:0≤a) (h1:a≤1000):∃r0 r1 r2 r3 a' z',Ev (fun k=>spec_l1Cur_circle.f k s a z) (r0,r1,r2,r3,a',z')∧a≤a'∧a'≤a+30:=by
 obtain⟨q,a1,z1,he,hq,p0,p1⟩:=config_ok hs z h0 om
 have j0:∀(a z x0 x1 x2 x3:Int),0≤a→a≤2000→∃r0 r1 r2 r3 a' z',Ev (fun k=>spec_l1Cur_circle.j0 k s a z x0 x1 x2 x3) (r0,r1,r2,r3,a',z')∧a≤a'∧a'≤a+4:=by
  intro a z x0 x1 x2 x3 h0 h1
  obtain⟨x,a1,z1,hp,_,_,p0,p1⟩:=pick_ok hs z h0 om (n:=16) om
  by_cases c0:x=0
  ·obtain⟨v,a2,z2,hp2,hv,p2,p3⟩:=among_ok hs (a:=a1) z1 om om (l:=[1,(-1),1000000]) sm sm
   refine⟨_,_,_,_,a2,z2,Ev.step (f:=fun _=>some (wrap64 (x0+v),x1,x2,x3,a2,z2)) (fun k=>?_) (Ev.now _),om,om⟩
   rw[spec_l1Cur_circle.j0,hp]
   simp only[Option.bind_some]
   rw[if_pos c0,hp2]
   rfl
  ·by_cases c1:x=1
   ·refine⟨_,_,_,_,a1,z1,Ev.step (f:=fun _=>some (1000000,0,0,1,a1,z1)) (fun k=>?_) (Ev.now _),om,om⟩
    rw[spec_l1Cur_circle.j0,hp]
    simp only[Option.bind_some]
    rw[if_neg c0,if_pos c1]
   ·by_cases c2:x=2
    ·obtain⟨v,a2,z2,hp2,hv,p2,p3⟩:=among_ok hs (a:=a1) z1 om om (l:=[(-9223372036854775808),4611686018427387904]) sm sm
     refine⟨_,_,_,_,a2,z2,Ev.step (f:=fun _=>some (v,2,0,0,a2,z2)) (fun k=>?_) (Ev.now _),om,om⟩
     rw[spec_l1Cur_circle.j0,hp]
     simp only[Option.bind_some]
     rw[if_neg c0,if_neg c1,if_pos c2,hp2]
     rfl
    ·refine⟨_,_,_,_,a1,z1,Ev.step (f:=fun _=>some (x0,x1,x2,x3,a1,z1)) (fun k=>?_) (Ev.now _),om,om⟩
     rw[spec_l1Cur_circle.j0,hp]
     simp only[Option.bind_some]
     rw[if_neg c0,if_neg c1,if_neg c2]
 by_cases hl:(q.length:Int)>0
 ·obtain⟨i,a2,z2,hp2,i0,iN,p2,p3⟩:=pick_ok hs (a:=a1) z1 om om (n:=(q.length:Int)) om
  obtain⟨r0,r1,r2,r3,a3,z3,e3,p4,p5⟩:=j0 a2 z2 (rd_T37 q i).f0 (rd_T37 q i).f1 (rd_T37 q i).f2 (rd_T37 q i).f3 om om
  refine⟨r0,r1,r2,r3,a3,z3,?_,om,om⟩
  unfold spec_l1Cur_circle.f
  refine Ev.bind he ?_
  simp only[if_pos hl,hp2,Option.bind_some,if_pos i0,if_pos (iN om)]
  exact e3
 ·obtain⟨r0,r1,r2,r3,a3,z3,e3,p4,p5⟩:=j0 a1 z1 0 0 1 0 om om
  refine⟨r0,r1,r2,r3,a3,z3,?_,om,om⟩
  unfold spec_l1Cur_circle.f
  refine Ev.bind he ?_
  simp only[if_neg hl]
  exact e3
theorem u8_bytes {l:List Int} (h:∀x∈l,(Lit.int .u8 x).wf=true):Bytes l:=by
 intro x hx
 have:=h x hx
 simp only[Lit.wf,Bool.and_eq_true,decide_eq_true_eq]at this
 exact⟨this.1,this.2⟩
theorem dec_lt:∀(k u:Nat),u<10^(k+1)→(Lib.decDigits u).length≤k+1
 |0,u,h=>by rw[dec_small (by simpa using h)];simp
 |k+1,u,h=>by
  by_cases h1:u<10
  ·rw[dec_small h1];simp
  ·rw[dec_big h1,List.length_append]
   have:=dec_lt k (u/10) (by rw[Nat.div_lt_iff_lt_mul (by decide)];rw[Nat.pow_succ]at h;exact h)
   simp only[List.length_cons,List.length_nil]
   omega
theorem tx_small {n:Int} (h:bdT n):(tx n).size≤8:=by
 unfold bdT at h
 unfold tx
 rw[mk_size]
 unfold Lib.itoa
 split
 ·have:=dec_lt 6 n.natAbs om
  simp only[List.length_cons]
  omega
 ·have:=dec_lt 6 n.natAbs om
  have h2:=dec_lt 6 n.toNat om
  first
   |omega
   |(simp only[List.length_cons];omega)
theorem ctx_small {a b c d:Int} (ha:bdT a) (hb:bdT b) (hc:bdT c) (hd:bdT d):(ctx a b c d).size≤40:=by
 have:=tx_small ha
 have:=tx_small hb
 have:=tx_small hc
 have:=tx_small hd
 unfold ctx
 simp only[ByteArray.size_append,sp_size]
 omega
theorem drawUp_ok {s:List Int} (hs:Bytes s):∃l most,Ev (fun k=>spec_DrawCirclesUpTo.f k s) (l,most)∧l.length≤100:=by
 have j0:∀(x5:List S37) (a z:Int),x5.length≤100→0≤a→a≤1000→∃l most,Ev (fun k=>spec_DrawCirclesUpTo.j0 k x5 s a z) (l,most)∧l.length≤100:=by
  intro x5 a z hx h0 h1
  obtain⟨b,a1,z1,hb,p0,p1⟩:=one_ok hs z h0 om (n:=4) om
  obtain⟨v,a2,z2,hv,_,_,_⟩:=among_ok hs (a:=a1) z1 om om (l:=[1,2,3,15,30,60,61,0]) sm sm
  cases b with
  |true=>
   refine⟨(folR x5 [3,2,3]).1,v,Ev.step (fun k=>spec_DrawCirclesUpTo.j0.eq_2 _ _ _ _ k) ?_,by have:=folR_len x5 [3,2,3];omega⟩
   rw[hb]
   refine Ev.bind (Ev.now _) (Ev.iff rfl (Ev.bind (folS_ev x5 [3,2,3] sm) ?_))
   simp only[hv]
   exact Ev.now _
  |false=>
   refine⟨x5,v,Ev.step (fun k=>spec_DrawCirclesUpTo.j0.eq_2 _ _ _ _ k) ?_,hx⟩
   rw[hb]
   refine Ev.bind (Ev.now _) (Ev.els sm ?_)
   simp only[hv]
   exact Ev.now _
 obtain⟨b,a1,z1,hb,p0,p1⟩:=one_ok hs (a:=0) 0 om om (n:=3) om
 unfold spec_DrawCirclesUpTo.f
 rw[hb]
 have hst:spec_StartConfig.f 0=some ((([(⟨1,(-1),0,0⟩:S37),(⟨0,2,1,0⟩:S37),(⟨0,2,(-1),0⟩:S37),(⟨1,3,0,2⟩:S37)]:List (S37))),true):=rfl
 rw[hst]
 simp only[Option.bind_some]
 cases b with
 |true=>
  obtain⟨q,a2,z2,he,hq,p2,p3⟩:=config_ok hs z1 (a:=a1) om om
  obtain⟨l,m,h1,h2⟩:=j0 q a2 z2 om om om
  exact⟨l,m,Ev.iff rfl (Ev.bind he h1),h2⟩
 |false=>
  obtain⟨l,m,h1,h2⟩:=j0 [(⟨1,(-1),0,0⟩:S37),(⟨0,2,1,0⟩:S37),(⟨0,2,(-1),0⟩:S37),(⟨1,3,0,2⟩:S37)] a1 z1 sm om om
  exact⟨l,m,Ev.els sm h1,h2⟩
theorem drawTo_l {s:List Int} (hs:Bytes s):∀(n:Nat) (x6:List S37) (a z:Int),42≤x6.length+n→x6.length≤400→0≤a→a+n≤1000000→∃l,Ev (fun k=>spec_DrawTouchingPairs.l0 k x6 s a z) l∧l.length≤400
 |0,x6,a,z,hn,hx,h0,h1=>by
  obtain⟨x,a1,z1,hp,x0,x1,_,_⟩:=pick_ok hs z h0 om (n:=2) om
  have:=x1 om
  refine⟨x6,Ev.step (fun k=>spec_DrawTouchingPairs.l0.eq_2 _ _ _ _ k) ?_,hx⟩
  have hw:wrap64 (40+x)=40+x:=wrap_id om om
  rw[hp]
  exact Ev.bind (Ev.now _) (Ev.els (show¬(x6.length:Int)<wrap64 (40+x) by rw[hw];omega) (Ev.now _))
 |n+1,x6,a,z,hn,hx,h0,h1=>by
  obtain⟨x,a1,z1,hp,x0,x1,p0,p1⟩:=pick_ok hs z h0 om (n:=2) om
  have hx2:=x1 om
  have hw:wrap64 (40+x)=40+x:=wrap_id om om
  by_cases hc:(x6.length:Int)<40+x
  ·obtain⟨l,h2,h3⟩:=drawTo_l hs n (x6++[(⟨0,0,1,0⟩:S37)]) a1 z1 (by simp;omega) (by simp;omega) om om
   refine⟨l,Ev.step (fun k=>spec_DrawTouchingPairs.l0.eq_2 _ _ _ _ k) ?_,h3⟩
   rw[hp]
   exact Ev.bind (Ev.now _) (Ev.iff (show(x6.length:Int)<wrap64 (40+x) by rw[hw];exact hc) (Ev.iff om h2))
  ·refine⟨x6,Ev.step (fun k=>spec_DrawTouchingPairs.l0.eq_2 _ _ _ _ k) ?_,hx⟩
   rw[hp]
   exact Ev.bind (Ev.now _) (Ev.els (show¬(x6.length:Int)<wrap64 (40+x) by rw[hw];exact hc) (Ev.now _))
theorem drawTo_ok {s:List Int} (hs:Bytes s):∃l,Ev (fun k=>spec_DrawTouchingPairs.f k s) l:=by
 have j0:∀(x6:List S37) (a z:Int),x6.length≤302→0≤a→a≤1000→∃l,Ev (fun k=>spec_DrawTouchingPairs.j0 k x6 s a z) l:=by
  intro x6 a z hx h0 h1
  obtain⟨b,a1,z1,hb,p0,p1⟩:=one_ok hs z h0 om (n:=15) om
  cases b with
  |true=>
   obtain⟨l,h2,_⟩:=drawTo_l hs 42 x6 a1 z1 om om om om
   refine⟨l,Ev.step (fun k=>spec_DrawTouchingPairs.j0.eq_2 _ _ _ _ k) ?_⟩
   rw[hb]
   exact Ev.bind (Ev.now _) (Ev.iff rfl h2)
  |false=>
   refine⟨x6,Ev.step (fun k=>spec_DrawTouchingPairs.j0.eq_2 _ _ _ _ k) ?_⟩
   rw[hb]
   exact Ev.bind (Ev.now _) (Ev.els sm (Ev.now _))
 unfold spec_DrawTouchingPairs.f
 have hst:spec_StartConfig.f 0=some ((([(⟨1,(-1),0,0⟩:S37),(⟨0,2,1,0⟩:S37),(⟨0,2,(-1),0⟩:S37),(⟨1,3,0,2⟩:S37)]:List (S37))),true):=rfl
 rw[hst]
 simp only[Option.bind_some]
 obtain⟨v,a1,z1,hv,_,p0,p1⟩:=among_ok hs (a:=0) 0 om om (l:=[3,6,15,18]) sm sm
 rw[hv]
 simp only[Option.bind_some]
 obtain⟨r,hr,_,hrl,_⟩:=up_both [(⟨1,(-1),0,0⟩:S37),(⟨0,2,1,0⟩:S37),(⟨0,2,(-1),0⟩:S37),(⟨1,3,0,2⟩:S37)] v sm
 obtain⟨b,a2,z2,hb,p2,p3⟩:=one_ok hs z1 (a:=a1) om om (n:=3) om
 cases b with
 |true=>
  obtain⟨r0,r1,r2,r3,a3,z3,hc,p4,p5⟩:=circle_ok hs z2 (a:=a2) om om
  obtain⟨l,hl⟩:=j0 (r.1++[(⟨r0,r1,r2,r3⟩:S37)]) a3 z3 (by simp;omega) om om
  refine⟨l,Ev.bind hr ?_⟩
  rw[hb]
  exact Ev.bind (Ev.now _) (Ev.iff rfl (Ev.bind hc (Ev.iff om hl)))
 |false=>
  obtain⟨l,hl⟩:=j0 r.1 a2 z2 om om om
  refine⟨l,Ev.bind hr ?_⟩
  rw[hb]
  exact Ev.bind (Ev.now _) (Ev.els sm hl)
theorem spoilt_l {s:List Int} (hs:Bytes s) (y:ByteArray) (hy:1≤y.size∧y.size≤100):∀(n:Nat) (x:ByteArray) (a z:Int),n≤2→x.size+n≤100→0≤a→a+10*n≤1000000→∃r a' z',Ev (fun k=>spec_l1Cur_spoilt.l0 k x y (n:Int) s a z) (r,a',z')∧r.size≤100
 |0,x,a,z,hn,hx,h0,h1=>by
  refine⟨x,a,z,Ev.step (fun k=>spec_l1Cur_spoilt.l0.eq_2 _ _ _ _ _ _ k) (Ev.els om (Ev.step (fun k=>spec_l1Cur_spoilt.j1.eq_2 _ _ _ _ _ _ _ k) (Ev.els sm (Ev.now _)))),om⟩
 |n+1,x,a,z,hn,hx,h0,h1=>by
  by_cases hz:x.size=0
  ·refine⟨x,a,z,Ev.step (fun k=>spec_l1Cur_spoilt.l0.eq_2 _ _ _ _ _ _ k) (Ev.iff om ?_),om⟩
   rw[decide_eq_false om]
   exact Ev.step (fun k=>spec_l1Cur_spoilt.j1.eq_2 _ _ _ _ _ _ _ k) (Ev.els sm (Ev.now _))
  ·obtain⟨i,a1,z1,hp1,i0,i1,p0,p1⟩:=pick_ok hs z h0 om (n:=(x.size:Int)) om
   obtain⟨j,a2,z2,hp2,j0,j1,p2,p3⟩:=pick_ok hs z1 (a:=a1) om om (n:=(y.size:Int)) om
   obtain⟨c,a3,z3,hp3,c0,c1,p4,p5⟩:=pick_ok hs z2 (a:=a2) om om (n:=3) om
   have hi:=i1 om
   have hj:=j1 om
   have hw1:wrap64 (i+1)=i+1:=wrap_id om om
   have hwn:wrap64 (((n+1:Nat):Int)-1)=(n:Int):=by rw[wrap_id om om];omega
   have hsz1:(strOfNums ([bt y j]:List Int)).size=1:=by simp[strOfNums,ByteArray.size]
   have hex:∀u v:Nat,(x.extract u v).size≤x.size:=fun u v=>by rw[ByteArray.size_extract];omega
   have hpre:(x.extract 0 i.toNat).size=i.toNat:=by rw[ByteArray.size_extract];omega
   have hpo:(x.extract i.toNat x.size).size=x.size-i.toNat:=by rw[ByteArray.size_extract];omega
   have hpo1:(x.extract (i+1).toNat x.size).size=x.size-(i+1).toNat:=by rw[ByteArray.size_extract];omega
   have key:∀x':ByteArray,x'.size≤x.size+1→∃r a' z',Ev (fun k=>spec_l1Cur_spoilt.l0 k x' y (n:Int) s a3 z3) (r,a',z')∧r.size≤100:=fun x' hx'=>
    spoilt_l hs y hy n x' a3 z3 om om om om
   have go:∀R,Ev (fun k=>if c=0 then(if 0≤i then(if i≤(x.size:Int)then(if(x.extract 0 i.toNat).size+(strOfNums [bt y j]).size≤9223372036854775807 then(if((x.extract 0 i.toNat)++(strOfNums [bt y j])).size+(x.extract i.toNat x.size).size≤9223372036854775807 then(spec_l1Cur_spoilt.l0 k (((x.extract 0 i.toNat)++(strOfNums [bt y j]))++(x.extract i.toNat x.size)) y (wrap64 (((n+1:Nat):Int)-1)) s a3 z3)else(none))else(none))else(none))else(none))else(if c=1 then(if 0≤i then(if i≤(x.size:Int)then(if(x.extract 0 i.toNat).size+(strOfNums [bt y j]).size≤9223372036854775807 then(if 0≤(wrap64 (i+1))then(if(wrap64 (i+1))≤(x.size:Int)then(if((x.extract 0 i.toNat)++(strOfNums [bt y j])).size+(x.extract (wrap64 (i+1)).toNat x.size).size≤9223372036854775807 then(spec_l1Cur_spoilt.l0 k (((x.extract 0 i.toNat)++(strOfNums [bt y j]))++(x.extract (wrap64 (i+1)).toNat x.size)) y (wrap64 (((n+1:Nat):Int)-1)) s a3 z3)else(none))else(none))else(none))else(none))else(none))else(none))else(if 0≤i then(if i≤(x.size:Int)then(if 0≤(wrap64 (i+1))then(if(wrap64 (i+1))≤(x.size:Int)then(if(x.extract 0 i.toNat).size+(x.extract (wrap64 (i+1)).toNat x.size).size≤9223372036854775807 then(spec_l1Cur_spoilt.l0 k ((x.extract 0 i.toNat)++(x.extract (wrap64 (i+1)).toNat x.size)) y (wrap64 (((n+1:Nat):Int)-1)) s a3 z3)else(none))else(none))else(none))else(none))else(none)))) R→Ev (fun k=>spec_l1Cur_spoilt.l0 k x y ((n+1:Nat):Int) s a z) R:=by
    intro R hR
    refine Ev.step (fun k=>spec_l1Cur_spoilt.l0.eq_2 _ _ _ _ _ _ k) (Ev.iff om ?_)
    rw[decide_eq_true om]
    refine Ev.step (fun k=>spec_l1Cur_spoilt.j1.eq_2 _ _ _ _ _ _ _ k) (Ev.iff rfl ?_)
    rw[hp1]
    refine Ev.bind (Ev.now _) ?_
    rw[hp2]
    refine Ev.bind (Ev.now _) (Ev.iff j0 (Ev.iff hj (Ev.bind (Ev.now _) ?_)))
    rw[hp3]
    exact Ev.bind (Ev.now _) hR
   by_cases e0:c=0
   ·obtain⟨r,a',z',hr,hrs⟩:=key (((x.extract 0 i.toNat)++(strOfNums [bt y j]))++(x.extract i.toNat x.size)) (by simp only[ByteArray.size_append,hsz1,hpre,hpo];omega)
    refine⟨r,a',z',go _ (Ev.iff e0 (Ev.iff i0 (Ev.iff om (Ev.iff (by rw[hsz1];have:=hex 0 i.toNat;omega) (Ev.iff (by simp only[ByteArray.size_append,hsz1,hpre,hpo];omega) ?_))))),hrs⟩
    rw[hwn]
    exact hr
   ·by_cases e1:c=1
    ·obtain⟨r,a',z',hr,hrs⟩:=key (((x.extract 0 i.toNat)++(strOfNums [bt y j]))++(x.extract (i+1).toNat x.size)) (by simp only[ByteArray.size_append,hsz1,hpre,hpo1];omega)
     refine⟨r,a',z',go _ ?_,hrs⟩
     rw[hw1,hwn]
     exact Ev.els e0 (Ev.iff e1 (Ev.iff i0 (Ev.iff om (Ev.iff (by rw[hsz1];have:=hex 0 i.toNat;omega) (Ev.iff om (Ev.iff om (Ev.iff (by simp only[ByteArray.size_append,hsz1,hpre,hpo1];omega) hr)))))))
    ·obtain⟨r,a',z',hr,hrs⟩:=key ((x.extract 0 i.toNat)++(x.extract (i+1).toNat x.size)) (by simp only[ByteArray.size_append,hpre,hpo1];omega)
     refine⟨r,a',z',go _ ?_,hrs⟩
     rw[hw1,hwn]
     exact Ev.els e0 (Ev.els e1 (Ev.iff i0 (Ev.iff om (Ev.iff om (Ev.iff om (Ev.iff (by rw[hpre,hpo1];omega) hr))))))
theorem drawPc_ok {s:List Int} (hs:Bytes s):∃t,Ev (fun k=>spec_DrawParseCircle.f k s) t∧t.size≤100:=by
 have j0:∀(x5:ByteArray) (a z:Int),x5.size≤60→0≤a→a≤1000→∃t,Ev (fun k=>spec_DrawParseCircle.j0 k x5 s a z) t∧t.size≤100:=by
  intro x5 a z hx h0 h1
  obtain⟨b,a1,z1,hb,p0,p1⟩:=one_ok hs z h0 om (n:=3) om
  cases b with
  |true=>
   obtain⟨x,a2,z2,hp,x0,x1,p2,p3⟩:=pick_ok hs z1 (a:=a1) om om (n:=2) om
   have hx1:=x1 om
   have hw:wrap64 (1+x)=((1+x).toNat:Int):=by rw[wrap_id om om];omega
   obtain⟨r,a',z',hr,hrs⟩:=spoilt_l hs (⟨#[48,49,50,51,45,32]⟩:ByteArray) (by decide) (1+x).toNat x5 a2 z2 om om om om
   refine⟨r,Ev.step (fun k=>spec_DrawParseCircle.j0.eq_2 _ _ _ _ k) ?_,hrs⟩
   rw[hb]
   refine Ev.bind (Ev.now _) (Ev.iff rfl (Ev.bind (a:=(r,a',z')) ?_ (Ev.now _)))
   unfold spec_l1Cur_spoilt.f
   rw[hp]
   refine Ev.bind (Ev.now _) ?_
   rw[hw]
   exact hr
  |false=>
   refine⟨x5,Ev.step (fun k=>spec_DrawParseCircle.j0.eq_2 _ _ _ _ k) ?_,om⟩
   rw[hb]
   exact Ev.bind (Ev.now _) (Ev.els sm (Ev.now _))
 obtain⟨r0,r1,r2,r3,a1,z1,hc,p0,p1⟩:=circle_ok hs (a:=0) 0 om om
 unfold spec_DrawParseCircle.f
 cases hg:isc r0 r1 r2 r3 with
 |true=>
  obtain⟨ha,hb,hcc,hd⟩:=isc_b hg
  obtain⟨t,ht,hts⟩:=j0 (ctx r0 r1 r2 r3) a1 z1 (by have:=ctx_small ha hb hcc hd;omega) om om
  exact⟨t,Ev.bind hc (Ev.bind (good_ev r0 r1 r2 r3) (Ev.iff hg (Ev.bind (ciText_ev ha hb hcc hd) ht))),hts⟩
 |false=>
  obtain⟨t,ht,hts⟩:=j0 (⟨#[49,32,45,49,32,48,32,48]⟩:ByteArray) a1 z1 (by decide) om om
  exact⟨t,Ev.bind hc (Ev.bind (good_ev r0 r1 r2 r3) (Ev.els (by rw[hg];simp) ht)),hts⟩
theorem drawCt_ok {s:List Int} (hs:Bytes s):∃a b c d,Ev (fun k=>spec_DrawCircleText.f k s) (a,b,c,d):=by
 obtain⟨r0,r1,r2,r3,a1,z1,hc,p0,p1⟩:=circle_ok hs (a:=0) 0 om om
 refine⟨r0,r1,r2,r3,?_⟩
 unfold spec_DrawCircleText.f spec_DrawIsCircle.f
 exact Ev.bind (a:=(r0,r1,r2,r3)) (Ev.bind hc (Ev.now _)) (Ev.now _)
theorem rdL5_at {l:List (List Int)} {i:Nat} (h:i<l.length):rd_L5 l (i:Int)=l[i]:=by simp[rd_L5,List.getD_eq_getElem?_getD,List.getElem?_eq_getElem h]
theorem rdC7_at {l:List S37} {i:Nat} (h:i<l.length):rd_T37 l (i:Int)=l[i]:=by simp[rd_T37,List.getD_eq_getElem?_getD,List.getElem?_eq_getElem h]
theorem dLess_ev {p q:List Int} (h:lexP p q) (hs:∀x∈p++q,x≤1000000):Ev (fun k=>laws_dLess.f k p q) true:=by
 obtain⟨a,b,c,d,rfl,rfl,h⟩:=h
 unfold laws_dLess.f
 have w1:wrap64 ((0:Int)+1)=1:=wrap_id (by decide) (by decide)
 refine Ev.step (fun k=>laws_dLess.l0.eq_2 _ _ _ _ k) (Ev.iff sm (Ev.iff sm (Ev.iff sm (Ev.iff sm ?_))))
 have r0:rd ([(a:Int),(b:Int)]) 0=a:=rfl
 have r1:rd ([(c:Int),(d:Int)]) 0=c:=rfl
 have r2:rd ([(a:Int),(b:Int)]) 1=b:=rfl
 have r3:rd ([(c:Int),(d:Int)]) 1=d:=rfl
 rw[r0,r1,w1]
 rcases h with h|⟨h,h2⟩
 ·refine Ev.els om ?_
  rw[decide_eq_true om]
  exact Ev.now _
 ·refine Ev.iff om (Ev.step (fun k=>laws_dLess.l0.eq_2 _ _ _ _ k) (Ev.iff sm (Ev.iff sm (Ev.iff sm (Ev.iff sm ?_)))))
  rw[r2,r3]
  refine Ev.els om ?_
  rw[decide_eq_true om]
  exact Ev.now _
theorem dHas_l (x:Int) (l:List Int) (hl:l.length≤1000000000) (hx:x∈l) (d:Nat):∀i:Nat,i+d=l.length→(∀j:Nat,j<i→∀h:j<l.length,l[j]≠x)→Ev (fun k=>laws_dHas.l0 k x l (l.length:Int) (i:Int)) true:=by
 induction d with
 |zero=>
  intro i hi hn
  obtain⟨j,hj,e⟩:=List.getElem_of_mem hx
  exact absurd e (hn j om hj)
 |succ d ih=>
  intro i hi hn
  have hil:i<l.length:=om
  refine Ev.step (fun k=>laws_dHas.l0.eq_2 _ _ _ _ k) (Ev.iff om (Ev.iff om (Ev.iff om ?_)))
  rw[rdi_at hil]
  by_cases e:l[i]=x
  ·exact Ev.iff e (Ev.now _)
  ·refine Ev.els e ?_
   rw[wrap_id om om]
   refine ih (i+1) om (fun j hj h=>?_)
   by_cases e2:j=i
   ·subst e2;exact e
   ·exact hn j om h
theorem dHas_ev {x:Int} {l:List Int} (hl:l.length≤1000000000) (hx:x∈l):Ev (fun k=>laws_dHas.f k l x) true:=by
 unfold laws_dHas.f
 exact dHas_l x l hl hx l.length 0 om (fun j hj=>by omega)
theorem dLists_l (l:List (List Int)) (hl:l.length≤1000000000) (hr:∀x∈l,x.length≤1000000) (d:Nat):∀i:Nat,i+d=l.length→Ev (fun k=>laws_dLists.l0 k l l (l.length:Int) (i:Int)) true:=by
 induction d with
 |zero=>
  intro i hi
  exact Ev.step (fun k=>laws_dLists.l0.eq_2 _ _ _ _ k) (Ev.els om (Ev.now _))
 |succ d ih=>
  intro i hi
  have hil:i<l.length:=om
  refine Ev.step (fun k=>laws_dLists.l0.eq_2 _ _ _ _ k) (Ev.iff om (Ev.iff om (Ev.iff om (Ev.iff om ?_))))
  rw[rdL5_at hil]
  refine Ev.bind (dSame_ev l[i] (by have:=hr _ (List.getElem_mem hil);omega)) (Ev.iff rfl ?_)
  rw[wrap_id om om]
  exact ih (i+1) om
theorem dLists_ev (l:List (List Int)) (hl:l.length≤1000000000) (hr:∀x∈l,x.length≤1000000):Ev (fun k=>laws_dLists.f k l l) true:=by
 unfold laws_dLists.f
 exact Ev.iff rfl (dLists_l l hl hr l.length 0 om)
theorem isc_isC (x:S37):isc x.f0 x.f1 x.f2 x.f3=isC x:=rfl
theorem j9_ok {s:List Int} (hs:Bytes s):Ev (fun k=>laws_FnCirclesOfPackings.j9 k s) true:=by
 obtain⟨t,ht,hts⟩:=drawPc_ok hs
 refine Ev.step (fun k=>laws_FnCirclesOfPackings.j9.eq_2 _ k) (Ev.bind ht ?_)
 by_cases hc:∃a b c d,isc a b c d=true∧ctx a b c d=t
 ·obtain⟨a,b,c,d,h,he⟩:=hc
  refine Ev.bind (impl_yes t om h he) (Ev.bind (spec_yes t om h he) (Ev.els sm ?_))
  refine Ev.step (fun k=>laws_FnCirclesOfPackings.j10.eq_2 _ _ _ _ _ _ _ k) (Ev.els sm (Ev.iff rfl ?_))
  have hx:=implText_ev a b c d
  rw[if_pos h]at hx
  refine Ev.bind hx (Ev.iff rfl ?_)
  subst he
  simp only[beq_self_eq_true]
  exact Ev.now _
 ·have hno:∀a b c d,isc a b c d=true→ctx a b c d≠t:=fun a b c d h e=>hc ⟨a,b,c,d,h,e⟩
  refine Ev.bind (impl_no t om hno) (Ev.bind (spec_no t om hno) (Ev.els sm ?_))
  exact Ev.step (fun k=>laws_FnCirclesOfPackings.j10.eq_2 _ _ _ _ _ _ _ k) (Ev.els sm (Ev.els sm (Ev.now _)))
theorem text_ok {s:List Int} (hs:Bytes s) (F:Nat→Int × Int × Int × Int→Option Bool)
 (hF:∀k a b c d,F k (a,b,c,d)=(impl_CircleText.f k a b c d).bind fun bt792=>((spec_CircleText.f k a b c d).bind fun bt794=>(if(bt792.2 != bt794.2)=true then(laws_FnCirclesOfPackings.j8 k s bt792.1 bt792.2 true a b c d)else(if bt792.1.toList=bt794.1.toList then((impl_IsCircle.f a b c d).bind fun t796=>(laws_FnCirclesOfPackings.j8 k s bt792.1 bt792.2 (bt792.2 != t796) a b c d))else(laws_FnCirclesOfPackings.j8 k s bt792.1 bt792.2 true a b c d))))):
 ∀a b c d,Ev (fun k=>F k (a,b,c,d)) true:=by
 intro a b c d
 simp only[hF]
 have h9:=j9_ok hs
 refine Ev.bind (implText_ev a b c d) (Ev.bind (specText_ev a b c d) ?_)
 cases h:isc a b c d with
 |true=>
  simp only[if_true]
  refine Ev.els sm ?_
  (first|refine Ev.iff trivial ?_|refine Ev.iff rfl ?_|skip)
  rw[isCircle_f,h]
  refine Ev.bind (Ev.now _) (Ev.step (fun k=>laws_FnCirclesOfPackings.j8.eq_2 _ _ _ _ _ _ _ _ k) (Ev.els sm (Ev.iff rfl ?_)))
  obtain⟨ha,hb,hc,hd⟩:=isc_b h
  refine Ev.bind (impl_yes (ctx a b c d) (by have:=ctx_small ha hb hc hd;omega) h rfl) (Ev.iff rfl (Ev.els sm h9))
 |false=>
  simp only[Bool.false_eq_true,if_false]
  refine Ev.els sm ?_
  (first|refine Ev.iff trivial ?_|refine Ev.iff rfl ?_|skip)
  rw[isCircle_f,h]
  exact Ev.bind (Ev.now _) (Ev.step (fun k=>laws_FnCirclesOfPackings.j8.eq_2 _ _ _ _ _ _ _ _ k) (Ev.els sm (Ev.els sm h9)))
theorem l2_ok {s:List Int} (hs:Bytes s) (l:List S37) (hl:l.length≤100000) (hc:∀x∈l,isC x=true) (hp:(pairsOf l 0).length≤1000000000) (d:Nat):∀i:Nat,i+d=(pairsOf l 0).length→
 Ev (fun k=>laws_FnCirclesOfPackings.l2 k s l (pairsOf l 0) (pairsOf l 0) ((pairsOf l 0).length:Int) (i:Int)) true:=by
 induction d with
 |zero=>
  intro i hi
  obtain⟨a,b,c,d,hd⟩:=drawCt_ok hs
  refine Ev.step (fun k=>laws_FnCirclesOfPackings.l2.eq_2 _ _ _ _ _ _ k) (Ev.els om (Ev.bind hd ?_))
  exact text_ok hs (fun k x=>(impl_CircleText.f k x.1 x.2.1 x.2.2.1 x.2.2.2).bind fun bt792=>((spec_CircleText.f k x.1 x.2.1 x.2.2.1 x.2.2.2).bind fun bt794=>(if(bt792.2 != bt794.2)=true then(laws_FnCirclesOfPackings.j8 k s bt792.1 bt792.2 true x.1 x.2.1 x.2.2.1 x.2.2.2)else(if bt792.1.toList=bt794.1.toList then((impl_IsCircle.f x.1 x.2.1 x.2.2.1 x.2.2.2).bind fun t796=>(laws_FnCirclesOfPackings.j8 k s bt792.1 bt792.2 (bt792.2 != t796) x.1 x.2.1 x.2.2.1 x.2.2.2))else(laws_FnCirclesOfPackings.j8 k s bt792.1 bt792.2 true x.1 x.2.1 x.2.2.1 x.2.2.2)))))
   (fun _ _ _ _ _=>rfl) a b c d
 |succ d ih=>
  intro i hi
  have hil:i<(pairsOf l 0).length:=om
  have ihn:=ih (i+1) om
  have hw:wrap64 ((i:Int)+1)=((i+1:Nat):Int):=by rw[wrap_id om om];omega
  obtain⟨a,b,ha,hb,hab,ht,e⟩:=pairs_mem l 0 _ (List.getElem_mem hil)
  have hpw:=pairs_pw l 0
  have hless:∀h:0<i,Ev (fun k=>laws_dLess.f k (pairsOf l 0)[i-1] (pairsOf l 0)[i]) true:=fun h=>by
   have h2:=List.pairwise_iff_getElem.1 hpw (i-1) i om hil om
   obtain⟨a1,b1,ha1,hb1,_,_,e1⟩:=pairs_mem l 0 _ (List.getElem_mem (show i-1<(pairsOf l 0).length by omega))
   refine dLess_ev h2 ?_
   rw[e,e1]
   intro x hx
   simp at hx
   rcases hx with rfl|rfl|rfl|rfl<;>omega
  have hrd:rd_L5 (pairsOf l 0) (i:Int)=[((0+a:Nat):Int),((0+b:Nat):Int)]:=by rw[rdL5_at hil,e]
  have e0:rd [((0+a:Nat):Int),((0+b:Nat):Int)] 0=(a:Int):=by simp[rd]
  have e1:rd [((0+a:Nat):Int),((0+b:Nat):Int)] 1=(b:Int):=by simp[rd]
  have hget:(pairsOf l 0)[i]=[((0+a:Nat):Int),((0+b:Nat):Int)]:=e
  refine Ev.step (fun k=>laws_FnCirclesOfPackings.l2.eq_2 _ _ _ _ _ _ k) (Ev.iff om (Ev.iff om (Ev.iff om ?_)))
  rw[hrd,e0,e1,rdC7_at ha,rdC7_at hb,dtI]
  have hdt:dtR l[a] l[b]=(true,true):=by
   unfold dtR
   simp[hc _ (List.getElem_mem ha),hc _ (List.getElem_mem hb),ht]
  rw[hdt]
  refine Ev.iff sm (Ev.iff om (Ev.iff om (Ev.iff sm (Ev.iff om (Ev.iff om (Ev.bind (Ev.now _) (Ev.iff rfl (Ev.iff rfl (Ev.els om ?_)))))))))
  rw[hw]
  by_cases h0:0<i
  ·have hw1:wrap64 ((i:Int)-1)=((i-1:Nat):Int):=by rw[wrap_id om om];omega
   refine Ev.iff om ?_
   rw[hw1,rdL5_at (show i-1<(pairsOf l 0).length by omega)]
   have:=hless h0
   rw[hget]at this
   exact Ev.iff om (Ev.iff om (Ev.bind this (Ev.iff rfl ihn)))
  ·exact Ev.els om ihn
theorem j5_ok {s:List Int} (hs:Bytes s):Ev (fun k=>laws_FnCirclesOfPackings.j5 k s) true:=by
 obtain⟨l,hd⟩:=drawTo_ok hs
 refine Ev.step (fun k=>laws_FnCirclesOfPackings.j5.eq_2 _ k) (Ev.bind hd (Ev.bind (tpI_ev l) (Ev.bind (tpS_ev l) (Ev.els sm ?_))))
 unfold tgR
 by_cases h:l.length≤40∧l.all isC=true
 ·rw[if_pos h]
  obtain⟨h1,h2⟩:=h
  have hps:=pairs_len 40 l 0 h1
  have hm:l.length*40≤40*40:=Nat.mul_le_mul h1 (Nat.le_refl _)
  have hrow:∀x∈pairsOf l 0,x.length≤1000000:=fun x hx=>by
   obtain⟨a,b,_,_,_,_,e⟩:=pairs_mem l 0 x hx
   rw[e];simp
  refine Ev.bind (dLists_ev (pairsOf l 0) om hrow) ?_
  refine Ev.step (fun k=>laws_FnCirclesOfPackings.j6.eq_2 _ _ _ _ k) (Ev.els sm ?_)
  exact l2_ok hs l om (fun x hx=>List.all_eq_true.1 h2 x hx) om (pairsOf l 0).length 0 om
 ·rw[if_neg h]
  refine Ev.bind (dLists_ev [] sm sm) ?_
  refine Ev.step (fun k=>laws_FnCirclesOfPackings.j6.eq_2 _ _ _ _ k) (Ev.els sm ?_)
  obtain⟨a,b,c,d,hd⟩:=drawCt_ok hs
  refine Ev.step (fun k=>laws_FnCirclesOfPackings.l2.eq_2 _ _ _ _ _ _ k) (Ev.els sm (Ev.bind hd ?_))
  exact text_ok hs (fun k x=>(impl_CircleText.f k x.1 x.2.1 x.2.2.1 x.2.2.2).bind fun bt792=>((spec_CircleText.f k x.1 x.2.1 x.2.2.1 x.2.2.2).bind fun bt794=>(if(bt792.2 != bt794.2)=true then(laws_FnCirclesOfPackings.j8 k s bt792.1 bt792.2 true x.1 x.2.1 x.2.2.1 x.2.2.2)else(if bt792.1.toList=bt794.1.toList then((impl_IsCircle.f x.1 x.2.1 x.2.2.1 x.2.2.2).bind fun t796=>(laws_FnCirclesOfPackings.j8 k s bt792.1 bt792.2 (bt792.2 != t796) x.1 x.2.1 x.2.2.1 x.2.2.2))else(laws_FnCirclesOfPackings.j8 k s bt792.1 bt792.2 true x.1 x.2.1 x.2.2.1 x.2.2.2)))))
   (fun _ _ _ _ _=>rfl) a b c d
theorem cp_get (zs:List Int) (j:Nat) (h:j<zs.length):zs.toArray[j]! =zs[j]:=by simp[h]
theorem cp_mem (zs:List Int) (y:Int):y∈Lib.compact zs↔y∈zs:=by
 unfold Lib.compact Lib.compactUpTo
 constructor
 ·intro h
  obtain⟨j,hj,rfl⟩:=List.mem_map.1 h
  rw[List.mem_filter,List.mem_range]at hj
  rw[cp_get zs j hj.1]
  exact List.getElem_mem _
 ·intro h
  obtain⟨j,hj,rfl⟩:=List.getElem_of_mem h
  clear h
  induction j with
  |zero=>exact List.mem_map.2 ⟨0,by rw[List.mem_filter,List.mem_range];exact⟨hj,by simp[Lib.keeps]⟩,cp_get zs 0 hj⟩
  |succ j ih=>
   by_cases hk:Lib.keeps zs.toArray (j+1)=true
   ·exact List.mem_map.2 ⟨j+1,by rw[List.mem_filter,List.mem_range];exact⟨hj,hk⟩,cp_get zs (j+1) hj⟩
   ·have he:zs.toArray[j+1]! =zs.toArray[j]!:=by
     simp only[Lib.keeps,decide_eq_true_eq,not_or,Nat.add_sub_cancel]at hk
     exact Decidable.of_not_not hk.2
    rw[cp_get zs (j+1) hj,cp_get zs j om]at he
    rw[he]
    exact ih om
theorem cp_len (zs:List Int):(Lib.compact zs).length≤zs.length:=by
 unfold Lib.compact Lib.compactUpTo
 rw[List.length_map]
 have:=List.length_filter_le (Lib.keeps zs.toArray) (List.range zs.length)
 rw[List.length_range]at this
 exact this
theorem l1_ok {s:List Int} {most:Int} {X:List S37} {df:List Int} (hX:X.length≤300) (hgood:∀x∈X,isC x=true) (hfar:X.Pairwise (fun x y=>twi y x≤ -2)) {i:Nat} (hi:i<X.length)
 (hn:Ev (fun k=>laws_FnCirclesOfPackings.l0 k s most X df X (X.length:Int) ((i+1:Nat):Int)) true) (d:Nat):∀j:Nat,j+d=i→
 Ev (fun k=>laws_FnCirclesOfPackings.l1 k s most X df X (X.length:Int) (i:Int) (X.take i) ((X.take i).length:Int) (j:Int) X[i].f0 X[i].f1 X[i].f2 X[i].f3) true:=by
 have ht:(X.take i).length=i:=by rw[List.length_take];omega
 induction d with
 |zero=>
  intro j hj
  refine Ev.step (fun k=>laws_FnCirclesOfPackings.l1.eq_2 _ _ _ _ _ _ _ _ _ _ _ _ _ _ k) (Ev.els om ?_)
  rw[wrap_id (x:=(i:Int)+1) om om,show(i:Int)+1=((i+1:Nat):Int) by omega]
  exact hn
 |succ d ih=>
  intro j hj
  have hjt:j<(X.take i).length:=om
  have hjX:j<X.length:=om
  have e:(X.take i)[j]=X[j]:=List.getElem_take
  refine Ev.step (fun k=>laws_FnCirclesOfPackings.l1.eq_2 _ _ _ _ _ _ _ _ _ _ _ _ _ _ k) (Ev.iff om (Ev.iff om (Ev.iff om ?_)))
  rw[rdC7_at hjt,e,tpI]
  have hp:tpR X[i] X[j]=(twi X[i] X[j],true):=if_pos ⟨hgood _ (List.getElem_mem hi),hgood _ (List.getElem_mem hjX)⟩
  rw[hp]
  have hle:=List.pairwise_iff_getElem.1 hfar j i hjX hi om
  refine Ev.bind (Ev.now _) (Ev.iff rfl (Ev.els (by simp only;omega) ?_))
  rw[wrap_id (x:=(j:Int)+1) om om,show(j:Int)+1=((j+1:Nat):Int) by omega]
  exact ih (j+1) om
theorem l0_ok {s:List Int} (hs:Bytes s) {most:Int} {X:List S37} {df:List Int} (hX:X.length≤300) (hdl:df.length≤1000) (hgood:∀x∈X,isC x=true∧x.f1≤most) (hdf:∀x∈X,x.f1∈df) (hfar:X.Pairwise (fun x y=>twi y x≤ -2)) (d:Nat):
 ∀i:Nat,i+d=X.length→Ev (fun k=>laws_FnCirclesOfPackings.l0 k s most X df X (X.length:Int) (i:Int)) true:=by
 induction d with
 |zero=>
  intro i hi
  exact Ev.step (fun k=>laws_FnCirclesOfPackings.l0.eq_2 _ _ _ _ _ _ _ k) (Ev.els om (j5_ok hs))
 |succ d ih=>
  intro i hi
  have hil:i<X.length:=om
  obtain⟨hc,hm⟩:=hgood _ (List.getElem_mem hil)
  have hn:=ih (i+1) om
  have h1:=l1_ok hX (fun x hx=>(hgood x hx).1) hfar hil hn i 0 om
  refine Ev.step (fun k=>laws_FnCirclesOfPackings.l0.eq_2 _ _ _ _ _ _ _ k) (Ev.iff om (Ev.iff om (Ev.iff om ?_)))
  rw[rdC7_at hil,isCircle_f,isc_isC,hc]
  refine Ev.bind (Ev.now _) (Ev.iff rfl (Ev.els om (Ev.bind (dHas_ev om (hdf _ (List.getElem_mem hil))) ?_)))
  refine Ev.step (fun k=>laws_FnCirclesOfPackings.j3.eq_2 _ _ _ _ _ _ _ _ _ _ _ _ _ k) (Ev.els sm (Ev.iff om (Ev.iff om (Ev.bind (Ev.now _) ?_))))
  rw[Int.toNat_natCast]
  exact h1
theorem pack_ok {s:List Int} (hs:Bytes s) {l:List S37} {most:Int} {X:List S37} (hX:X.length≤300) (hc:cfgB l=true) (h1:1≤most) (h2:most≤60) (hq:quadB (l.map S37.f1)=true) (hd:dwn (l.map S37.f1)<0) (hx:∃x∈l.map S37.f1,x<0) (hW:∃W,Whole l most X W):
 Ev (fun k=>laws_FnCirclesOfPackings.j0 k s l most X true false) true:=by
 obtain⟨x,hxm,hx0⟩:=hx
 obtain⟨W,hW⟩:=hW
 obtain⟨L,hp,hL,_,hI⟩:=packed_ev hq hd hxm hx0 h1 (show most≤500 by omega)
 have hperm:=whole_perm (cfg_len hc) hW hI om
 have hLX:L.Perm (X.map S37.f1):=hL.trans hperm.symm
 have hlen:(sortI L).length=X.length:=by
  rw[(sortI_perm L).length_eq,hLX.length_eq,List.length_map]
 have hne:0<(sortI L).length:=by
  rw[(sortI_perm L).length_eq]
  have:x∈L:=hL.mem_iff.2 (List.mem_append_left _ (List.mem_filter.2 ⟨hxm,by simp;omega⟩))
  exact List.length_pos_of_mem this
 have hcl:=cp_len (sortI L)
 have hcu:=curI l
 rw[cur_of hc]at hcu
 have hcount:Ev (fun k=>impl_CountUpTo.f k (l.map S37.f1) most) ((X.length:Int),true):=by
  unfold impl_CountUpTo.f
  refine Ev.bind hp ?_
  simp only[hlen]
  exact Ev.now _
 have hdiff:Ev (fun k=>impl_CurvaturesUpTo.f k (l.map S37.f1) most) (Lib.compact (sortI L),true):=by
  unfold impl_CurvaturesUpTo.f
  refine Ev.bind hp (Ev.iff rfl ?_)
  have e:slices_Compact_int_int.f (sortI L)=some (Lib.compact (sortI L)):=by
   unfold slices_Compact_int_int.f
   rw[if_pos (by rw[decide_eq_true hne,decide_eq_true (show(sortI L).length<4611686018427387904 by omega)];rfl)]
  simp only[e,Option.bind_some,clone_f (Lib.compact (sortI L)) om]
  exact Ev.now _
 refine Ev.step (fun k=>laws_FnCirclesOfPackings.j0.eq_2 _ _ _ _ _ _ k) (Ev.els sm (Ev.iff rfl (Ev.bind hcu (Ev.bind hcount (Ev.bind hdiff (Ev.iff rfl (Ev.iff rfl (Ev.iff rfl ?_))))))))
 refine Ev.step (fun k=>laws_FnCirclesOfPackings.j1.eq_2 _ _ _ _ _ k) (Ev.els sm ?_)
 refine l0_ok hs hX (by simp only;omega) (whole_good hc hW) (fun y hy=>?_) (whole_far hc hW) X.length 0 om
 rw[cp_mem,(sortI_perm L).mem_iff,hLX.mem_iff]
 exact List.mem_map.2 ⟨y,hy,rfl⟩
end Go.Proofs.YtmpofeilljmmiaaGreatDoor.P
