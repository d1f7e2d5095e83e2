/- Parts. -/
import Derived.Test.YtklklgfpkpglgaaGreatDoorW45
set_option linter.all false
set_option maxRecDepth 100000
set_option maxHeartbeats 0
namespace Go.Proofs.YtklklgfpkpglgaaGreatDoor
open Go.RowKit Go.Proofs.Tryz
variable (gl:List (Nat × List D))
section
def Si:List Nat:=[0,1,4,6,8,9,10,11,12,16,17,18,19]
def Uw:List Nat:=[0,1,4,5,6,7,8,9,16]
def Tn:List Nat:=[0,1,3,4,5,6,7,17,29]
namespace Al
theorem mg4 (ω:Wd)(l:List Ex)(j:Nat)(h:j<l.length):Ir ω (l.take (j+1))=Ir ω (l.take j)++(Il l[j]).map (Dq ω.is):=by
 unfold Ir;rw[kr9 l j h,Ar]
theorem km4 (ω:Wd)(l:List Ex):(Ir ω l).length<=Gb l:=by
 unfold Ir;rw[Aa];exact jq8 l
theorem rp6 (l:List Ex)(j:Nat):Gb (l.take j)<=Gb l:=by
 have:Gb l=Gb (l.take j)+Gb (l.drop j):=by rw[<-kg3,List.take_append_drop]
 omega
def rp7 (A:List D)(B:List ByteArray):Nat->List D
 |0=>A
 |i+1=>A++(B.take (i+1)).map .str
theorem ky5 (A:List D)(B:List ByteArray)(i:Nat):rp7 A B i=A++(B.take i).map .str:=by
 cases i with
 |zero=>simp[rp7]
 |succ i=>rfl
attribute [local irreducible] TR TC
theorem ky6 (ω:Wd)(hr:Rank ω.is)(l:List Ex)(hl:Gb l<=100000000):FnE prog gl 105 [.ptr 900 0,.d (.list 6 (l.map dEx))] (HA ω) (λv H1=>v=.d (.list 1 ((Ir ω l).map .str))/\H1=HA ω):=by
 have cb:=λs=>kx5 gl ω s hr;have hll:=ja0 l;rw[k9];dsimp only[HA]at cb ⊢
 (refine j2 func105 ntmps105 results105 λw M E b0=>?_)
 ((repeat' first|apply Cf 1;refine halt ?_|refine yyp ?_;try refine Ce ?_ ?_<;>intro hb|refine yy ?_|apply ah;refine Cc Si ?_|refine Cb λK hK=>?_|apply_assumption -exfalso -symm);all_goals try refine unhalt ?_)
 refine jq9 (t:=4) (e:=9) (sz:=1) 936 rfl rfl ?_
 (repeat' first|refine yyp ?_;try refine Ce ?_ ?_<;>intro hb|refine yy ?_|apply ah;refine Cc Si ?_|refine Cb λK hK=>?_|apply_assumption -exfalso -symm)
 refine j9 [4,6,8,11,12,13,14,15,16,17,18,19,20,21,22,23,24,25,26,27,28,29] [936] (λx:Nat × Nat=>[(11,.d (.int .i64 x.1)),(4,.own 936 x.2)]) (λx=>[(936,.row 9 1 true ((Ir ω (l.take x.1)).map .str) x.2)]) (λx=>x.1<=l.length) (λx=>l.length - x.1) (0,0) (Ai _) λ⟨j,kv⟩ hj=>?_;dsimp only[Ac,Ad]at hj ⊢;rcases Ah j l.length with hj2|hj2
 ·have h1:=l8 l j hj2;have h2:=kf9 l[j];have h3:=km4 ω (l.take j);have cn:=mt3 gl l[j] (by omega);simp only[k9]at cn
  (repeat' first|apply Ca 6;(refine j3 6 ?_)|refine yyp ?_;try refine Ce ?_ ?_<;>intro hb|refine yy ?_|apply Cg 70;refine Ci (hc:=cn) ?_|apply ah;refine Cc Si ?_|refine Cb λK hK=>?_|apply_assumption -exfalso -symm)
  refine j9 [4,8,18,19,20,21,22,23,24,25,26,27,28] [936] (λx:Nat × Nat=>[(18,.d (.int .i64 x.1)),(4,.own 936 x.2)]) (λx=>[(936,.row 9 1 true (rp7 ((Ir ω (l.take j)).map .str) ((Il l[j]).map (Dq ω.is)) x.1) x.2)]) (λx=>x.1<=(Il l[j]).length) (λx=>(Il l[j]).length - x.1) (0,kv) (Ai _) λ⟨i,kw⟩ hi=>?_;dsimp only[Ac,Ad]at hi ⊢;rcases Ah i (Il l[j]).length with hi2|hi2
  ·have c4:=cb (Il l[j])[i];rw[ky5 _ _ i]
   (repeat' first|apply Ca 25;refine Ch (hc:=c4) ?_|apply Ca 26;(refine Df 26 ?_)|refine yyp ?_;try refine Ce ?_ ?_<;>intro hb|refine yy ?_|(apply Cw;first|(refine Da (λkv=>?_))|(refine ai (λsx sp kv hsx hsp hsl=>?_)))|apply ah;refine Cc Si ?_|refine Cb λK hK=>?_|apply_assumption -exfalso -symm)
   refine⟨(i+1,kv),by dsimp only;omega,by dsimp only;omega,?_⟩;dsimp only;rw[ky5 _ _ (i+1),Ao (by rw[Aa];exact hi2)];simp only[Ar,Ap,Ba,List.getElem_map,Ea];exact r9
  ·rw[ky5,show((Il l[j]).map (Dq ω.is)).take i=(Il l[j]).map (Dq ω.is) from Am (by rw[Aa];exact hi2)]
   (repeat' first|refine yyp ?_;try refine Ce ?_ ?_<;>intro hb|refine yy ?_|apply ah;refine Cc Si ?_|refine Cb λK hK=>?_|apply_assumption -exfalso -symm)
   refine⟨(j+1,kw),by dsimp only;omega,by dsimp only;omega,?_⟩;dsimp only;rw[mg4 ω l j hj2,Ar];exact r9
 ·rw[Am hj2]
  (repeat' first|refine yyp ?_;try refine Ce ?_ ?_<;>intro hb|refine yy ?_|apply ah;refine Cc Si ?_|refine Cb λK hK=>?_|apply_assumption -exfalso -symm)
  (refine j1 (j6 ⟨?_,rfl⟩))
  rfl
theorem jk1 {A B:List ByteArray}(h:∀ s,s∈A↔s∈B)(l:List ByteArray):jd3 A l=jd3 B l:=by
 unfold jd3;congr 1;funext s;exact decide_eq_decide.2 (h s)
theorem qo1 (A:List ByteArray)(s:ByteArray):FnE prog gl 142 [.d (.str s),.ptr 1002 0] [(1002,.box [.d (.map (Di A) (Dj A))])] (λv H1=>v=.d (.bool (decide (s∈A)))/\H1=[(1002,.box [.d (.map (Di A) (Dj A))])]):=by
 (refine j2 func142 ntmps142 results142 λw M E b0=>?_)
 (repeat' first|apply Ca 6;(refine jn4 (λhin=>?_) (λhin=>?_))|refine yyp ?_;try refine Ce ?_ ?_<;>intro hb|refine yy ?_|apply ah;refine Cc [0,1,3,4,5,6] ?_|refine Cb λK hK=>?_|apply_assumption -exfalso -symm)
 ·(refine j1 (j6 ⟨?_,rfl⟩))
  rw[Bm hin];rfl
 ·(refine j1 (j6 ⟨?_,rfl⟩))
  rw[Bn hin];rfl
theorem rp8 (A l:List ByteArray):FnE prog gl 44 [.d (.list 1 (l.map .str)),.clo (.func 142) [] [.ptr 1002 0]] [(1002,.box [.d (.map (Di A) (Dj A))])] (λv H1=>∃ k:Int,(jd3 A l=decide (0<=k))/\v=.d (.int .i64 k)/\H1=[(1002,.box [.d (.map (Di A) (Dj A))])]):=by
 (refine j2 func44 ntmps44 results44 λw M E b0=>?_)
 refine k7 0 rfl λhsm=>?_;rw[Aa]at hsm
 (repeat' first|refine yyp ?_;try refine Ce ?_ ?_<;>intro hb|refine yy ?_|apply ah;refine Cc Uw ?_|refine Cb λK hK=>?_|apply_assumption -exfalso -symm)
 refine j9 [4,5,8,9,10,11,12,13,14,15,16,17,18] [] (λj:Nat=>[(8,.d (.int .i64 j))]) (λ_=>[]) (λj=>j<=l.length/\∀ s∈l.take j,s∉A) (λj=>l.length - j) 0 ⟨Ai _,by simp⟩ λj ⟨hj,hno⟩=>?_;dsimp only[Ac,Ad];rcases Ah j l.length with hj2|hj2
 ·have c1:=qo1 gl A l[j];by_cases hin:l[j]∈A
  ·rw[Bm hin]at c1
   (repeat' first|apply Ca 16;refine Ch (hc:=c1) ?_;try refine Ce ?_ ?_<;>intro hb|refine yyp ?_;try refine Ce ?_ ?_<;>intro hb|refine yy ?_|apply ah;refine Cc Uw ?_|refine Cb λK hK=>?_|apply_assumption -exfalso -symm)
   refine j1 (j6 ⟨(j:Nat),?_,rfl,rfl⟩);have:jd3 A l=true:=Et.2 ⟨l[j],At hj2,by simpa using hin⟩;rw[this];simp
  ·rw[Bn hin]at c1
   (repeat' first|apply Ca 16;refine Ch (hc:=c1) ?_;try refine Ce ?_ ?_<;>intro hb|refine yyp ?_;try refine Ce ?_ ?_<;>intro hb|refine yy ?_|apply ah;refine Cc Uw ?_|refine Cb λK hK=>?_|apply_assumption -exfalso -symm)
   refine⟨j+1,⟨by omega,λs hs=>?_⟩,by omega,r9⟩;rw[Ao hj2,Bi,Bu]at hs;rcases hs with hs|rfl
   ·exact hno s hs
   ·exact hin
 ·rw[Am hj2]at hno
  (repeat' first|refine yyp ?_;try refine Ce ?_ ?_<;>intro hb|refine yy ?_|apply ah;refine Cc Uw ?_|refine Cb λK hK=>?_|apply_assumption -exfalso -symm)
  refine j1 (j6 ⟨-1,?_,rfl,rfl⟩);have:jd3 A l=false:=List.any_eq_false.2 λs hs=>by simpa using hno s hs
  rw[this];simp
theorem mt6 (A l:List ByteArray):FnD prog gl 104 [.d (.map (Di A) (Dj A)),.d (.list 1 (l.map .str))] (λv=>v=.d (.bool (jd3 A l))):=by
 have c1:=rp8 gl A l;have c2:FnE prog gl 141 [.d (.list 1 (l.map .str)),.clo (.func 142) [] [.ptr 1002 0]] [(1002,.box [.d (.map (Di A) (Dj A))])] (λv H1=>v=.d (.bool (jd3 A l))/\H1=[(1002,.box [.d (.map (Di A) (Dj A))])]):=by
  (refine j2 func141 ntmps141 results141 λw M E b0=>?_)
  (repeat' first|apply Ca 7;(refine Ga (hc:=c1) ?_;rintro kk hkk)|refine yyp ?_|refine yy ?_|refine yy2 ?_ ?_<;>intro hcmp|apply ah;refine Cc [0,1,4,5,6,7] ?_|refine Cb λK hK=>?_|apply_assumption -exfalso -symm)
  all_goals
   (refine j1 (j6 ⟨?_,rfl⟩))
   rw[hkk]
   first
    |(rw[Bm (by assumption)];rfl)
    |(rw[Bn (by assumption)];rfl)
 (refine j5 func104 ntmps104 results104 λw M=>?_)
 (repeat' first|apply Ca 2;(refine Cm 1002 ?_)|apply Ca 7;refine Ch (hc:=c2) ?_|refine yyp ?_|refine yy ?_|apply ah;refine Cc [0,1,2,4,5,6,7] ?_|refine Cb λK hK=>?_|apply_assumption -exfalso -symm)
 all_goals (refine j1 (j8 ?_))
 all_goals rfl
theorem rp9 (ω:Wd)(hr:Rank ω.is)(p:Pr)(a:Pr)(l:List Pr)(hl:p.l=a::l)(ha:Sc.Iw a)(he:exN p.spec.e<=10000):FnE prog gl 63 [.ptr 900 0,.d (dPr p)] (HA ω) (λv H1=>v=.d (.bool (Ja ω p.spec.kind p.spec.e a))/\H1=HA ω):=by
 have c1:=ky3 gl ω hr a ha;have c2:=ky6 gl ω hr [p.spec.e] (by simp only[Gb];omega);have c3:=ky6 gl ω hr p.spec.e.l (by have:=mj1 p.spec.e;omega);have cm:=λA l=>mt6 gl A l;simp only[Ap,Ba,v6,congrFun k9 p.spec.e]at c1 c2;rw[v6];dsimp only[HA]at c1 c2 c3 ⊢;unfold Ja;by_cases h2:p.spec.kind=2
 ·rw[Ae h2]
  (refine j2 func63 ntmps63 results63 λw M E b0=>?_)
  ((repeat' first|apply Ca 3;(refine Cm 3 ?_)|apply Ca 5;(refine j3 5 ?_)|apply Cf 4;refine halt ?_|refine yyp ?_;try refine Ce ?_ ?_<;>intro hb|refine yy ?_|apply ah;refine Cc Tn ?_|refine Cb λK hK=>?_|apply_assumption -exfalso -symm);all_goals try refine unhalt ?_)
  rw[v6,hl];simp only[Ap]
  (repeat' first|apply Ca 24;(refine Ga (hc:=c1) ?_;rintro⟨A,B⟩ ⟨hA,hB⟩)|apply Ca 34;(refine Df 34 ?_)|apply Ca 35;refine Ch (hc:=c2) ?_|refine yyp ?_|refine yy ?_|apply Cg 104;refine Ci (hc:=(cm _ _)) ?_|apply ah;refine Cc Tn ?_|refine Cb λK hK=>?_|apply_assumption -exfalso -symm)
  (refine j1 (j6 ⟨?_,rfl⟩))
  exact congrArg (λb=>V.d (D.bool (!b))) (jk1 hB _)
 rw[Af h2];by_cases h3:p.spec.kind=3
 ·rw[Ae h3]
  (refine j2 func63 ntmps63 results63 λw M E b0=>?_)
  ((repeat' first|apply Ca 3;(refine Cm 3 ?_)|apply Ca 5;(refine j3 5 ?_)|apply Cf 4;refine halt ?_|refine yyp ?_;try refine Ce ?_ ?_<;>intro hb|refine yy ?_|apply ah;refine Cc Tn ?_|refine Cb λK hK=>?_|apply_assumption -exfalso -symm);all_goals try refine unhalt ?_)
  rw[v6,hl];simp only[Ap]
  (repeat' first|apply Ca 24;(refine Ga (hc:=c1) ?_;rintro⟨A,B⟩ ⟨hA,hB⟩)|apply Ca 42;(refine jn4 (λhin=>?_) (λhin=>?_))|apply Ca 44;refine yyp ?_;try refine Ce ?_ ?_<;>intro hb|apply Ca 50;refine Ch (hc:=c3) ?_|refine yyp ?_|refine yy ?_|apply Cg 104;refine Ci (hc:=(cm _ _)) ?_|apply ah;refine Cc Tn ?_|refine Cb λK hK=>?_|apply_assumption -exfalso -symm)
  all_goals (refine j1 (j6 ⟨?_,rfl⟩))
  ·rw[Bm ((hA _).1 hin)];rfl
  ·rw[Bn λh=>hin ((hA _).2 h)];exact congrArg (λb=>V.d (D.bool (!b))) (jk1 hB _)
 ·rw[Af h3]
  (refine j2 func63 ntmps63 results63 λw M E b0=>?_)
  (repeat' first|apply Ca 3;(refine Cm 3 ?_)|apply Ca 5;(refine j3 5 ?_)|refine yyp ?_;try refine Ce ?_ ?_<;>intro hb|refine yy ?_|apply ah;refine Cc Tn ?_|refine Cb λK hK=>?_|apply_assumption -exfalso -symm)
  (refine j1 (j6 ⟨?_,rfl⟩))
  rfl
end Al
end
section
def Ux:List Nat:=[0,1,4,5,6,7,8,9,16]
namespace Al
noncomputable def mz3 (ω:Wd)(l:List Ex):Int:=match Jm ω [] l with
 |some k=>(k:Nat)
 |none=>-1
theorem qo2 {ω:Wd}:∀ {l:List Ex} {m:List ByteArray} {k:Nat},Jm ω m l=some k->k<l.length
 |[],m,k,h=>by simp[Jm]at h
 |e::l,m,k,h=>by
  simp only[Jm]at h;split at h
  ·cases h;simp
  ·obtain⟨i,hi,rfl⟩:=Fk.1 h;have:=qo2 hi;simp only[An];omega
theorem rb3 {ω:Wd}{l:List Ex}{m:List ByteArray}{j:Nat}(h:Jm ω [] l=(Jm ω m (l.drop j)).map (· +j))(hj:j<l.length):(Dq ω.is l[j].s∈m->Jm ω [] l=some j)/\(Dq ω.is l[j].s∉m->Jm ω [] l=(Jm ω (addN m (Dq ω.is l[j].s)) (l.drop (j+1))).map (· +(j+1))):=by
 rw[Bo hj]at h;simp only[Jm]at h;constructor
 ·intro hm;rw[Ae hm]at h;rw[h];simp
 ·intro hm;rw[Af hm,Option.map_map]at h;rw[h];congr 1;funext x;simp only[Function.comp];omega
attribute [local irreducible] TR TC
theorem rq0 (ω:Wd)(hr:Rank ω.is)(e:Ex)(m:List ByteArray):FnE prog gl 107 [.d (dEx e),.ptr 1002 0,.ptr 1005 0] ((1002,.box [.ptr 900 0])::(1005,.box [.map 907])::(907,.map (Di m) (Dj m))::HA ω) (λv H1=>v=.d (.bool (decide (Dq ω.is e.s∈m)))/\H1=(1002,.box [.ptr 900 0])::(1005,.box [.map 907])::(907,.map (Di (addN m (Dq ω.is e.s))) (Dj (addN m (Dq ω.is e.s))))::HA ω):=by
 have cb:=kx5 gl ω e.s hr;have c2:=qn6 gl m [Dq ω.is e.s];rw[show Ik m [Dq ω.is e.s]=addN m (Dq ω.is e.s) from rfl]at c2;simp only[Ap,Ba]at c2;rw[k9];dsimp only[HA]at cb ⊢
 (refine j2 func107 ntmps107 results107 λw M E b0=>?_)
 (repeat' first|apply Ca 3;(refine Cm 3 ?_)|apply Ca 10;refine Ch (hc:=cb) ?_|apply Ca 13;(refine jy5 (λhin=>?_) (λhin=>?_))|apply Ca 16;(refine Df 16 ?_)|apply Ca 17;refine Ch (hc:=c2) ?_|refine yyp ?_|refine yy ?_|apply ah;refine Cc [0,1,2,3,4,5,6] ?_|refine Cb λK hK=>?_|apply_assumption -exfalso -symm)
 all_goals (refine j1 (j6 ⟨?_,rfl⟩))
 ·rw[Bm hin];rfl
 ·rw[Bn hin];rfl
theorem rq1 (ω:Wd)(hr:Rank ω.is)(l:List Ex):FnE prog gl 106 [.d (.list 6 (l.map dEx)),.clo (.func 107) [] [.ptr 1002 0,.ptr 1005 0]] ((1002,.box [.ptr 900 0])::(1005,.box [.map 907])::(907,.map (Di []) (Dj []))::HA ω) (λv H1=>∃ m:List ByteArray,True/\v=.d (.int .i64 (mz3 ω l))/\H1=(1002,.box [.ptr 900 0])::(1005,.box [.map 907])::(907,.map (Di m) (Dj m))::HA ω):=by
 rw[k9];have ct:=λe m=>rq0 gl ω hr e m;simp only[k9]at ct;dsimp only[HA]at ct ⊢
 (refine j2 func106 ntmps106 results106 λw M E b0=>?_)
 refine k7 0 rfl λhsm=>?_;rw[Aa]at hsm
 (repeat' first|refine yyp ?_;try refine Ce ?_ ?_<;>intro hb|refine yy ?_|apply ah;refine Cc Ux ?_|refine Cb λK hK=>?_|apply_assumption -exfalso -symm)
 refine j9 [4,5,8,9,10,11,12,13,14,15,16,17,18] [907] (λx:Nat × List ByteArray=>[(8,.d (.int .i64 x.1))]) (λx=>[(907,.map (Di x.2) (Dj x.2))]) (λx=>x.1<=l.length/\Jm ω [] l=(Jm ω x.2 (l.drop x.1)).map (· +x.1)) (λx=>l.length - x.1) (0,[]) ⟨Ai _,by simp⟩ λ⟨j,m⟩ ⟨hj,hm⟩=>?_;dsimp only[Ac,Ad]at hj hm ⊢;rcases Ah j l.length with hj2|hj2
 ·have c1:=ct l[j] m;have hst:=rb3 hm hj2;by_cases hin:Dq ω.is l[j].s∈m
  ·rw[Bm hin]at c1
   (repeat' first|apply Ca 16;refine Ch (hc:=c1) ?_;try refine Ce ?_ ?_<;>intro hb|refine yyp ?_;try refine Ce ?_ ?_<;>intro hb|refine yy ?_|apply ah;refine Cc Ux ?_|refine Cb λK hK=>?_|apply_assumption -exfalso -symm)
   refine j1 (j6 ⟨_,trivial,?_,rfl⟩);unfold mz3;rw[hst.1 hin];rfl
  ·rw[Bn hin]at c1
   (repeat' first|apply Ca 16;refine Ch (hc:=c1) ?_;try refine Ce ?_ ?_<;>intro hb|refine yyp ?_;try refine Ce ?_ ?_<;>intro hb|refine yy ?_|apply ah;refine Cc Ux ?_|refine Cb λK hK=>?_|apply_assumption -exfalso -symm)
   exact⟨(j+1,_),⟨by dsimp only;omega,hst.2 hin⟩,by dsimp only;omega,r9⟩
 ·rw[Br hj2]at hm
  (repeat' first|refine yyp ?_;try refine Ce ?_ ?_<;>intro hb|refine yy ?_|apply ah;refine Cc Ux ?_|refine Cb λK hK=>?_|apply_assumption -exfalso -symm)
  refine j1 (j6 ⟨_,trivial,?_,rfl⟩);unfold mz3;rw[hm];rfl
theorem qo3 (ω:Wd)(hr:Rank ω.is)(l:List Ex):FnE prog gl 65 [.ptr 900 0,.d (.list 6 (l.map dEx))] (HA ω) (λv H1=>v=.d (.int .i64 (mz3 ω l))/\H1=HA ω):=by
 have c1:=rq1 gl ω hr l;dsimp only[HA,Di,Dj,Ba]at c1 ⊢
 (refine j2 func65 ntmps65 results65 λw M E b0=>?_)
 (repeat' first|apply Ca 2;(refine Cm 1002 ?_)|apply Ca 6;(refine Iz 907 ?_)|apply Ca 5;(refine j3 1005 ?_)|apply Ca 9;(refine Ga (hc:=c1) ?_;rintro m _)|refine yyp ?_;try refine Ce ?_ ?_<;>intro hb|refine yy ?_|apply ah;refine Cc [0,1,2,4,5,6,7] ?_|refine Cb λK hK=>?_|apply_assumption -exfalso -symm)
 (refine j1 (j6 ⟨?_,rfl⟩))
 rfl
end Al
end
section
def Kj:List Nat:=[0,1,3,5,7,8,9,11,13,25,37,38,39,40,55,71,72,73,74,84,111,112,113,114,125,126,127,128]
def jh4:Plan:=lin [0,4,8,16,20,13,25,30,34]
def jh5:Plan:=lin [0,4,8,16,13,21,26,30]
def jf8:Plan:=lin [0,4,8,16,20,36,40,44,13,25,28,33,49,55]
def jf9:Plan:=lin [0,4,8,16,20,36,40,48,52,13,25,28,33,45,56,63]
def jh6:Plan:=lin [0,4,8,16,20,13,25,30]
namespace Al
open Lx Sc
theorem kg4 {r:ByteArray->Nat}{q:Pr}:∀ {l:List Pr},qz0 r l->q∈l->isR r q
 |x::l,h,hq=>by
  rcases Bg.1 hq with rfl|hq
  ·exact h.1
  ·exact kg4 h.2 hq
theorem mt7 {r:ByteArray->Nat}{q:Pr}:∀ {l:List Gu},rg6 r l->q∈l.flatMap (·.body)->isR r q
 |.mk _ _ _ _ _ _ _ body::l,h,hq=>by
  simp only[rg6]at h;simp only[Em,Gu.body,Bi]at hq;rcases hq with hq|hq
  ·exact kg4 h.1 hq
  ·exact mt7 h.2 hq
theorem jy9 {r:ByteArray->Nat}{p q:Pr}(h:isR r p)(hq:q∈aB p):isR r q:=by
 obtain⟨kind,name,av,aj,au,rep,ak,l,ay,⟨sk,st,sn,se,spp,sf,sb⟩⟩:=p;simp only[isR]at h;simp only[aB,Bi,Pr.spec,Sp.body,Pr.ak,Pr.l]at hq;rcases hq with (hq|hq)|hq
 ·exact kg4 h.2.1 hq
 ·exact mt7 h.2.2.1 hq
 ·exact kg4 h.2.2.2 hq
theorem rz9 {r:ByteArray->Nat}{p:Pr}(h:isR r p)(hk:p.spec.kind=3):∀ x∈p.spec.names.head?,r p.spec.e.s<r x:=by
 obtain⟨kind,name,av,aj,au,rep,ak,l,ay,⟨sk,st,sn,se,spp,sf,sb⟩⟩:=p;simp only[isR]at h;exact h.1 hk
theorem kg5 {r:ByteArray->Nat}{w v:Wd}{q:Pr}(h:Sim w (n5 v q))(hv:Ld r v)(hq:isR r q):Ld r w:=λx hx=>by
 rw[h.is]at hx;exact kr4 q hv hq x hx
structure SpOk (p:Pr):Prop where
 names:p.spec.kind=3\/p.spec.kind=5->∃ s l,p.spec.names=s::l
 body:p.spec.kind=5->∃ b,p.spec.body=[b]
 gus:∀ g∈p.ak,∃ b,g.body=[b]
theorem rq2 {p:Pr}(h:Gv p=true):SpOk p:=by
 have f:=jg2 h;refine⟨λhk=>?_,λhk=>?_,λg hg=>?_⟩
 ·by_cases h18:p.kind=18
  ·have:=(kf6 (f.spec h18).2).names;cases hn:p.spec.names with
   |nil=>exact absurd hn this
   |cons s l=>exact⟨s,l,rfl⟩
  ·rw[f.none h18]at hk;simp[sp0,Sp.kind]at hk
 ·by_cases h18:p.kind=18
  ·have:=(kf6 (f.spec h18).2).body hk
   match hb:p.spec.body,this with
   |[b],_=>exact⟨b,rfl⟩
  ·rw[f.none h18]at hk;simp[sp0,Sp.kind]at hk
 ·have:=(kw3 (f.gus g hg)).body
  match hb:g.body,this with
  |[b],_=>exact⟨b,rfl⟩
attribute [local irreducible] TR TC
theorem qo4 {r:ByteArray->Nat}(ω:Wd)(hω:Ld r ω)(p:Pr)(hr:isR r p)(ha:Iw p)
 (hrec:∀ q∈aB p,∀ ω:Wd,Ld r ω->FnE prog gl 41 [.ptr 900 0,.d (dPr q)] (HA ω) (λv H1=>∃ ω',Sim ω' (n5 ω q)/\v=.tup []/\H1=HA ω')):
 FnE prog gl 41 [.ptr 900 0,.d (dPr p)] (HA ω) (λv H1=>∃ ω',Sim ω' (n5 ω p)/\v=.tup []/\H1=HA ω'):=by
 have ok:=rq2 (jr1 ha);have hb1:∀ q∈p.spec.body,q∈aB p:=λq hq=>by simp only[aB,Bi];exact .inl (.inl hq)
 have hb2:∀ g∈p.ak,∀ q∈g.body,q∈aB p:=λg hg q hq=>by simp only[aB,Bi,List.mem_flatMap];exact .inl (.inr ⟨g,hg,hq⟩)
 have hb3:∀ q∈p.l,q∈aB p:=λq hq=>by simp only[aB,Bi];exact .inr hq
 have hsets:=λ(ω2:Wd) (h2:Ld r ω2) (b:Pr) (hb:b∈aB p)=>ky3 gl ω2 h2.rank b (jk0 ha hb);simp only[v6]at hrec hsets;rw[kc2,v6];obtain⟨W1,hW1⟩:∃ W1,W1=Mg ω p.rep.name p.spec.kind p.spec.names p.spec.e.s p.spec.ax:=⟨_,rfl⟩;have hR1:Ld r W1:=by rw[hW1];exact kk6 hω _ _ _ _ _ (rz9 hr)
 rw[<-hW1];obtain⟨K0,hK0⟩:∃ K0,K0=Ik ω.known p.spec.names:=⟨_,rfl⟩;obtain⟨K1,hK1⟩:∃ K1,K1=if p.rep.name=ByteArray.empty then K0 else addN K0 p.rep.name:=⟨_,rfl⟩;obtain⟨K2,hK2⟩:∃ K2,K2=Ik K1 (p.spec.ax.map (·.name)):=⟨_,rfl⟩;have c1:=kl9 gl ω.known p.spec.names;have c2:=kl9 gl K0 [p.rep.name];rw[<-hK0]at c1;simp only[Ap,Ba]at c2;dsimp only[HA,Ac,Ad]at hrec hsets ⊢
 (refine j2 func41 ntmps41 results41 λw M E b0=>?_)
 ((repeat' first|apply Ca 3;(refine Cm 3 ?_)|apply Ca 21;refine Ch (hc:=c1) ?_|refine jy6 2 ?_;refine halt ?_|refine yyp ?_;try refine Ce ?_ ?_<;>intro hb|refine yy ?_|apply ah;refine Cc Kj ?_|refine Cb λK hK=>?_|apply Cf 1;refine j0 [7] (lin [0,4,8,16,20,13,25,31]) ?_|apply Cf 3;refine j0 [] jh4 ?_|apply Cf 7;refine j0 [] jh5 ?_|apply Cf 10;refine j0 [13] jf8 ?_|apply Cf 18;refine j0 [15] jf9 ?_|apply_assumption -exfalso -symm);all_goals try refine unhalt ?_)
 refine jp1 [] [901] (λ_:List ByteArray=>[]) (λK=>[(901,.map (Di K) (Dj K))]) (λK=>K=K1) ?_ ?_
 ·rw[hK1]
  (repeat' first|apply Ca 33;(refine Df 33 ?_)|apply Ca 34;refine Ch (hc:=c2) ?_|refine yyp ?_;try refine Ce ?_ ?_<;>intro hb|refine yy ?_|refine yy2 ?_ ?_<;>intro hcmp|apply ah;refine Cc Kj ?_|refine Cb λK hK=>?_|apply Cf 1;refine j0 [] jh6 ?_|apply Cf 3;refine j0 [8] (lin [0,4,8,16,20,13,25,30,35]) ?_|apply Cf 7;refine j0 [] jh5 ?_|apply Cf 10;refine j0 [13] jf8 ?_|apply Cf 18;refine j0 [15] jf9 ?_|apply_assumption -exfalso -symm)
  all_goals first
   |(refine⟨Ik K0 [p.rep.name],?_,r9⟩;rw[Af (by assumption)];rfl)
   |(refine⟨K0,?_,r9⟩;rw[Ae (by first|assumption|grind)])
 intro Kx hKx;rw[hKx];clear hKx Kx;dsimp only[Ac,Ad]
 (repeat' first|refine yyp ?_;try refine Ce ?_ ?_<;>intro hb|refine yy ?_|apply ah;refine Cc Kj ?_|refine Cb λK hK=>?_|apply Cf 1;refine j0 [] jh6 ?_|apply Cf 3;refine j0 [] jh4 ?_|apply Cf 7;refine j0 [] jh5 ?_|apply Cf 10;refine j0 [13] jf8 ?_|apply Cf 18;refine j0 [15] jf9 ?_|apply_assumption -exfalso -symm)
 refine k7 37 rfl λhsm=>?_;simp only[Aa]at hsm;refine j9 [5,39,40,41,42,43,44,45,46,47,48,49,50,51] [901] (λj:Nat=>[(39,.d (.int .i64 j))]) (λj=>[(901,.map (Di (Ik K1 ((p.spec.ax.take j).map (·.name)))) (Dj (Ik K1 ((p.spec.ax.take j).map (·.name)))))]) (λj=>j<=p.spec.ax.length) (λj=>p.spec.ax.length - j) 0 (Ai _) λj hj=>?_;dsimp only[Ac,Ad];rcases Ah j p.spec.ax.length with hj2|hj2
 ·have c3:=kl9 gl (Ik K1 ((p.spec.ax.take j).map (·.name))) [p.spec.ax[j].name];rw[ky1,show((p.spec.ax.take j).map (·.name))++[p.spec.ax[j].name]=(p.spec.ax.take (j+1)).map (·.name) by rw[Ao hj2,Ar];rfl]at c3;simp only[Ap,Ba]at c3
  (repeat' first|apply Ca 5;(refine j3 5 ?_)|apply Ca 49;(refine Df 49 ?_)|apply Ca 50;refine Ch (hc:=c3) ?_|refine yyp ?_;try refine Ce ?_ ?_<;>intro hb|refine yy ?_|apply ah;refine Cc Kj ?_|refine Cb λK hK=>?_|apply Cf 1;refine j0 [] jh6 ?_|apply Cf 3;refine j0 [] jh4 ?_|apply Cf 7;refine j0 [7] (lin [0,4,8,16,13,21,26,31]) ?_|apply Cf 10;refine j0 [13] jf8 ?_|apply Cf 18;refine j0 [15] jf9 ?_|apply_assumption -exfalso -symm)
  exact⟨j+1,by omega,by omega,r9⟩
 obtain rfl:j=p.spec.ax.length:=by omega
 rw[Bk,<-hK2]
 ((repeat' first|refine jy6 9 ?_;refine halt ?_|refine yyp ?_;try refine Ce ?_ ?_<;>intro hb|refine yy ?_|apply ah;refine Cc Kj ?_|refine Cb λK hK=>?_|apply Cf 1;refine j0 [] jh6 ?_|apply Cf 3;refine j0 [] jh4 ?_|apply Cf 7;refine j0 [] jh5 ?_|apply Cf 10;refine j0 [13] jf8 ?_|apply Cf 18;refine j0 [15] jf9 ?_|apply_assumption -exfalso -symm);all_goals try refine unhalt ?_)
 refine jp1 [] [902] (λ_:List (ByteArray × ByteArray)=>[]) (λl=>[(902,.map (Mq l) (Nh .str l))]) (λl=>(⟨K2,l,ω.ay⟩:Wd)=W1) ?_ ?_
 ·rw[hW1];unfold Mg;dsimp only;rw[<-hK0,<-hK1,<-hK2];by_cases h3:p.spec.kind=3
  ·obtain⟨s0,ns,hn⟩:=ok.names (.inl h3);rw[Ae h3,hn]
   (repeat' first|refine jg0 13 ?_;(refine mt1 (f:=.str) (a:=p.spec.e.s) ?_)|refine yyp ?_;try refine Ce ?_ ?_<;>intro hb|refine yy ?_|apply ah;refine Cc Kj ?_|refine Cb λK hK=>?_|apply Cf 1;refine j0 [] jh6 ?_|apply Cf 3;refine j0 [] jh4 ?_|apply Cf 7;refine j0 [] jh5 ?_|apply Cf 10;refine j0 [13] jf8 ?_|apply Cf 18;refine j0 [15] jf9 ?_|apply_assumption -exfalso -symm)
   exact⟨up1 s0 p.spec.e.s ω.is,rfl,r9⟩
  ·rw[Af h3]
   (repeat' first|refine yyp ?_;try refine Ce ?_ ?_<;>intro hb|refine yy ?_|apply ah;refine Cc Kj ?_|refine Cb λK hK=>?_|apply Cf 1;refine j0 [] jh6 ?_|apply Cf 3;refine j0 [] jh4 ?_|apply Cf 7;refine j0 [] jh5 ?_|apply Cf 10;refine j0 [13] jf8 ?_|apply Cf 18;refine j0 [15] jf9 ?_|apply_assumption -exfalso -symm)
   exact⟨ω.is,rfl,r9⟩
 rintro is2 hW;dsimp only[Ac,Ad]
 (repeat' first|refine yyp ?_;try refine Ce ?_ ?_<;>intro hb|refine yy ?_|apply ah;refine Cc Kj ?_|refine Cb λK hK=>?_|apply Cf 1;refine j0 [] jh6 ?_|apply Cf 3;refine j0 [] jh4 ?_|apply Cf 7;refine j0 [] jh5 ?_|apply Cf 10;refine j0 [13] jf8 ?_|apply Cf 18;refine j0 [15] jf9 ?_|apply_assumption -exfalso -symm)
 rw[v6];refine k7 71 rfl λhsm2=>?_;simp only[Aa]at hsm2;refine j9 [7,73,74,75,76,77,78,79,80] [901,902,903] (λx:Nat × Wd=>[(73,.d (.int .i64 x.1))]) (λx=>[(901,.map (Di x.2.known) (Dj x.2.known)),(902,.map (Mq x.2.is) (Nh .str x.2.is)),(903,.map (Mq x.2.ay) (Nh dPc x.2.ay))]) (λx=>x.1<=p.spec.body.length/\Sim x.2 (Gf W1 (p.spec.body.take x.1))/\Ld r x.2) (λx=>p.spec.body.length - x.1) (0,⟨K2,is2,ω.ay⟩) ⟨Ai _,by rw[hW];exact Sim.refl _,by rw[hW];exact hR1⟩ λ⟨j,ω2⟩ ⟨hj,hS,hR⟩=>?_;dsimp only[Ac,Ad]at hj hS hR ⊢;rcases Ah j p.spec.body.length with hj2|hj2
 ·have hq:=hb1 _ (At hj2);have hone:=hrec p.spec.body[j] hq ω2 hR
  (repeat' first|apply Ca 7;(refine j3 7 ?_)|apply Ca 79;(refine Ga (hc:=hone) ?_;rintro ω3 hS3)|refine yyp ?_;try refine Ce ?_ ?_<;>intro hb|refine yy ?_|apply ah;refine Cc Kj ?_|refine Cb λK hK=>?_|apply Cf 1;refine j0 [] jh6 ?_|apply Cf 3;refine j0 [] jh4 ?_|apply Cf 7;refine j0 [] jh5 ?_|apply Cf 10;refine j0 [13] jf8 ?_|apply Cf 18;refine j0 [15] jf9 ?_|apply_assumption -exfalso -symm)
  refine⟨(j+1,ω3),⟨by dsimp only;omega,?_,kg5 hS3 hR (jy9 hr hq)⟩,by dsimp only;omega,r9⟩;dsimp only;rw[jy8 _ _ _ hj2];exact hS3.trans (jy7 _ hS)
 rw[Am hj2]at hS
 ((repeat' first|refine jy6 16 ?_;refine halt ?_|refine yyp ?_;try refine Ce ?_ ?_<;>intro hb|refine yy ?_|apply ah;refine Cc Kj ?_|refine Cb λK hK=>?_|apply Cf 1;refine j0 [] jh6 ?_|apply Cf 3;refine j0 [] jh4 ?_|apply Cf 7;refine j0 [] jh5 ?_|apply Cf 10;refine j0 [13] jf8 ?_|apply Cf 18;refine j0 [15] jf9 ?_|apply_assumption -exfalso -symm);all_goals try refine unhalt ?_)
 obtain⟨W2,hW2⟩:∃ W2,W2=Gf W1 p.spec.body:=⟨_,rfl⟩;rw[<-hW2]at hS ⊢;obtain⟨W3,hW3⟩:∃ W3,W3=Lf W2 p.spec.kind p.spec.names p.spec.ax (vd0 W2 p.spec.body) (wrB W2 p.spec.body):=⟨_,rfl⟩;rw[<-hW3];refine jp1 [] [903] (λ_:List (ByteArray × Pc)=>[]) (λl=>[(903,.map (Mq l) (Nh dPc l))]) (λl=>Sim ⟨ω2.known,ω2.is,l⟩ W3) ?_ ?_
 ·rw[hW3];by_cases h5:p.spec.kind=5
  ·obtain⟨s0,ns,hn⟩:=ok.names (.inr h5);obtain⟨b,hb⟩:=ok.body h5;have c5:=hsets ω2 hR b (hb1 b (by rw[hb];exact Be));rw[hn,hb];simp only[Ap,Ba]
   (repeat' first|apply Ca 92;(refine Ga (hc:=c5) ?_;rintro⟨A,B⟩ ⟨hA,hB⟩)|refine jg0 15 ?_;(refine mt1 (f:=dPc) (a:=⟨p.spec.ax,A,B⟩) ?_)|refine yyp ?_;try refine Ce ?_ ?_<;>intro hb|refine yy ?_|apply ah;refine Cc Kj ?_|refine Cb λK hK=>?_|apply Cf 1;refine j0 [] jh6 ?_|apply Cf 3;refine j0 [] jh4 ?_|apply Cf 7;refine j0 [] jh5 ?_|apply Cf 10;refine j0 [13] jf8 ?_|apply Cf 18;refine j0 [15] jf9 ?_|apply_assumption -exfalso -symm)
   refine⟨up1 s0 ⟨p.spec.ax,A,B⟩ ω2.ay,?_,r9⟩;have:=hS.Lf p.spec.kind (s0::ns) p.spec.ax (occ:=A) (wr:=B) (occ':=vd0 W2 [b]) (wr':=wrB W2 [b]) (λs=>(hA s).trans (hS.occ b s)) (λs=>(hB s).trans (hS.wr b s));have e:Lf ω2 p.spec.kind (s0::ns) p.spec.ax A B=⟨ω2.known,ω2.is,up1 s0 ⟨p.spec.ax,A,B⟩ ω2.ay⟩:=by unfold Lf;rw[Ae h5]
   rw[e]at this;exact this
  ·(repeat' first|refine yyp ?_;try refine Ce ?_ ?_<;>intro hb|refine yy ?_|apply ah;refine Cc Kj ?_|refine Cb λK hK=>?_|apply Cf 1;refine j0 [] jh6 ?_|apply Cf 3;refine j0 [] jh4 ?_|apply Cf 7;refine j0 [] jh5 ?_|apply Cf 10;refine j0 [13] jf8 ?_|apply Cf 18;refine j0 [15] jf9 ?_|apply_assumption -exfalso -symm)
   refine⟨ω2.ay,?_,r9⟩;have e:Lf W2 p.spec.kind p.spec.names p.spec.ax (vd0 W2 p.spec.body) (wrB W2 p.spec.body)=W2:=by unfold Lf;rw[Af h5]
   rw[e];exact hS
 rintro ps2 hS2;dsimp only[Ac,Ad]
 (repeat' first|refine yyp ?_;try refine Ce ?_ ?_<;>intro hb|refine yy ?_|apply ah;refine Cc Kj ?_|refine Cb λK hK=>?_|apply Cf 1;refine j0 [] jh6 ?_|apply Cf 3;refine j0 [] jh4 ?_|apply Cf 7;refine j0 [] jh5 ?_|apply Cf 10;refine j0 [13] jf8 ?_|apply Cf 18;refine j0 [15] jf9 ?_|apply_assumption -exfalso -symm)
 rw[jb9];refine k7 111 rfl λhsm3=>?_;simp only[Aa]at hsm3;refine j9 [11,113,114,115,116,117,118,119,120,121,122,123] [901,902,903] (λx:Nat × Wd=>[(113,.d (.int .i64 x.1))]) (λx=>[(901,.map (Di x.2.known) (Dj x.2.known)),(902,.map (Mq x.2.is) (Nh .str x.2.is)),(903,.map (Mq x.2.ay) (Nh dPc x.2.ay))]) (λx=>x.1<=p.ak.length/\Sim x.2 (Ho W3 (p.ak.take x.1))/\Ld r x.2) (λx=>p.ak.length - x.1) (0,⟨ω2.known,ω2.is,ps2⟩) ⟨Ai _,hS2,hR⟩ λ⟨j,ω4⟩ ⟨hj,hS4,hR4⟩=>?_;dsimp only[Ac,Ad]at hj hS4 hR4 ⊢;rcases Ah j p.ak.length with hj2|hj2
 ·obtain⟨b,hb⟩:=ok.gus _ (At hj2);have hq:=hb2 _ (At hj2) b (by rw[hb];exact Be);have hone:=hrec b hq ω4 hR4
  ((repeat' first|apply Ca 11;(refine j3 11 ?_)|apply Cf 22;refine halt ?_|refine yyp ?_;try refine Ce ?_ ?_<;>intro hb|refine yy ?_|apply ah;refine Cc Kj ?_|refine Cb λK hK=>?_|apply Cf 1;refine j0 [] jh6 ?_|apply Cf 3;refine j0 [] jh4 ?_|apply Cf 7;refine j0 [] jh5 ?_|apply Cf 10;refine j0 [13] jf8 ?_|apply Cf 18;refine j0 [15] jf9 ?_|apply_assumption -exfalso -symm);all_goals try refine unhalt ?_)
  rw[v6,hb];simp only[Ap,Ba]
  (repeat' first|apply Ca 122;(refine Ga (hc:=hone) ?_;rintro ω5 hS5)|refine yyp ?_;try refine Ce ?_ ?_<;>intro hb|refine yy ?_|apply ah;refine Cc Kj ?_|refine Cb λK hK=>?_|apply Cf 1;refine j0 [] jh6 ?_|apply Cf 3;refine j0 [] jh4 ?_|apply Cf 7;refine j0 [] jh5 ?_|apply Cf 10;refine j0 [13] jf8 ?_|apply Cf 18;refine j0 [15] jf9 ?_|apply_assumption -exfalso -symm)
  refine⟨(j+1,ω5),⟨by dsimp only;omega,?_,kg5 hS5 hR4 (jy9 hr hq)⟩,by dsimp only;omega,r9⟩;dsimp only;rw[ky4 _ _ _ hj2 hb];exact hS5.trans (jy7 _ hS4)
 rw[Am hj2]at hS4
 (repeat' first|refine yyp ?_;try refine Ce ?_ ?_<;>intro hb|refine yy ?_|apply ah;refine Cc Kj ?_|refine Cb λK hK=>?_|apply Cf 1;refine j0 [] jh6 ?_|apply Cf 3;refine j0 [] jh4 ?_|apply Cf 7;refine j0 [] jh5 ?_|apply Cf 10;refine j0 [13] jf8 ?_|apply Cf 18;refine j0 [15] jf9 ?_|apply_assumption -exfalso -symm)
 refine k7 125 rfl λhsm4=>?_;simp only[Aa]at hsm4;refine j9 [13,127,128,129,130,131,132,133,134] [901,902,903] (λx:Nat × Wd=>[(127,.d (.int .i64 x.1))]) (λx=>[(901,.map (Di x.2.known) (Dj x.2.known)),(902,.map (Mq x.2.is) (Nh .str x.2.is)),(903,.map (Mq x.2.ay) (Nh dPc x.2.ay))]) (λx=>x.1<=p.l.length/\Sim x.2 (Gf (Ho W3 p.ak) (p.l.take x.1))/\Ld r x.2) (λx=>p.l.length - x.1) (0,ω4) ⟨Ai _,hS4,hR4⟩ λ⟨j,ω6⟩ ⟨hj,hS6,hR6⟩=>?_;dsimp only[Ac,Ad]at hj hS6 hR6 ⊢;rcases Ah j p.l.length with hj2|hj2
 ·have hq:=hb3 _ (At hj2);have hone:=hrec p.l[j] hq ω6 hR6
  (repeat' first|apply Ca 13;(refine j3 13 ?_)|apply Ca 133;(refine Ga (hc:=hone) ?_;rintro ω7 hS7)|refine yyp ?_;try refine Ce ?_ ?_<;>intro hb|refine yy ?_|apply ah;refine Cc Kj ?_|refine Cb λK hK=>?_|apply Cf 1;refine j0 [] jh6 ?_|apply Cf 3;refine j0 [] jh4 ?_|apply Cf 7;refine j0 [] jh5 ?_|apply Cf 10;refine j0 [13] jf8 ?_|apply Cf 18;refine j0 [15] jf9 ?_|apply_assumption -exfalso -symm)
  refine⟨(j+1,ω7),⟨by dsimp only;omega,?_,kg5 hS7 hR6 (jy9 hr hq)⟩,by dsimp only;omega,r9⟩;dsimp only;rw[jy8 _ _ _ hj2];exact hS7.trans (jy7 _ hS6)
 rw[Am hj2]at hS6
 (repeat' first|refine yyp ?_;try refine Ce ?_ ?_<;>intro hb|refine yy ?_|apply ah;refine Cc Kj ?_|refine Cb λK hK=>?_|apply Cf 1;refine j0 [] jh6 ?_|apply Cf 3;refine j0 [] jh4 ?_|apply Cf 7;refine j0 [] jh5 ?_|apply Cf 10;refine j0 [13] jf8 ?_|apply Cf 18;refine j0 [15] jf9 ?_|apply_assumption -exfalso -symm)
 exact n9 ⟨ω6,hS6,rfl,rfl⟩
theorem qo5 {r:ByteArray->Nat}:∀ (n:Nat) (p:Pr),SizeOf.sizeOf p<=n->isR r p->Iw p->∀ ω:Wd,Ld r ω->FnE prog gl 41 [.ptr 900 0,.d (dPr p)] (HA ω) (λv H1=>∃ ω',Sim ω' (n5 ω p)/\v=.tup []/\H1=HA ω'):=by
 intro n
 induction n with
 |zero=>intro p h;cases p;simp only[Pr.mk.sizeOf_spec]at h;omega
 |succ n ih=>
  intro p hp hr ha ω hω;refine qo4 gl ω hω p hr ha λq hq ω2 h2=>ih q ?_ (jy9 hr hq) (jk0 ha hq) ω2 h2;have:=jb6 hq;omega
end Al
end
end Go.Proofs.YtklklgfpkpglgaaGreatDoor
