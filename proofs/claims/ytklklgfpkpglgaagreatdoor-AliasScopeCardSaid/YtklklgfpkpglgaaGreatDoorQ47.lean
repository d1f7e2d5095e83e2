/- Parts. -/
import Derived.Test.YtklklgfpkpglgaaGreatDoorQ46
set_option linter.all false
set_option maxRecDepth 100000
set_option maxHeartbeats 0
namespace Go.Proofs.YtklklgfpkpglgaaGreatDoor
open Go.RowKit Go.Proofs.Tryz
variable (gl:List (Nat × List D))
section
def Rx:List Nat:=[0,1,4,6,8,9,10,11,12,16,17,18,19]
def Uv:List Nat:=[0,1,4,5,6,7,8,9,16]
def Tm:List Nat:=[0,1,3,4,5,6,7,17,29]
namespace Al
theorem mj4 (ω:Wd)(l:List Ex)(j:Nat)(h:j<l.length):Ib ω (l.take (j+1))=Ib ω (l.take j)++(Kg l[j]).map (Db ω.is):=by
 unfold Ib;rw[kt6 l j h,Av]
theorem kn3 (ω:Wd)(l:List Ex):(Ib ω l).length<=Gw l:=by
 unfold Ib;rw[Ab];exact jx8 l
theorem rz2 (l:List Ex)(j:Nat):Gw (l.take j)<=Gw l:=by
 have:Gw l=Gw (l.take j)+Gw (l.drop j):=by rw[<-kg0,List.take_append_drop]
 omega
def rz3 (A:List D)(B:List ByteArray):Nat->List D
 |0=>A
 |i+1=>A++(B.take (i+1)).map .str
theorem ma5 (A:List D)(B:List ByteArray)(i:Nat):rz3 A B i=A++(B.take i).map .str:=by
 cases i with
 |zero=>simp[rz3]
 |succ i=>rfl
attribute [local irreducible] TR TC
theorem ma6 (ω:Wd)(hr:Rank ω.is)(l:List Ex)(hl:Gw l<=100000000):FnE prog gl 105 [.ptr 900 0,.d (.list 6 (l.map dEx))] (HA ω) (λv H1=>v=.d (.list 1 ((Ib ω l).map .str))/\H1=HA ω):=by
 have cb:=λs=>kz5 gl ω s hr;have hll:=jd0 l;rw[r8];dsimp only[HA]at cb ⊢
 (refine j3 func105 ntmps105 results105 λw M E b0=>?_)
 ((repeat' first|apply Cg 1;refine halt ?_|refine yyp ?_;try refine Ce ?_ ?_<;>intro hb|refine yy ?_|apply ah;refine Cc Rx ?_|refine Cb λK hK=>?_|apply_assumption -exfalso -symm);all_goals try refine unhalt ?_)
 refine ju6 (t:=4) (e:=9) (sz:=1) 936 rfl rfl ?_
 (repeat' first|refine yyp ?_;try refine Ce ?_ ?_<;>intro hb|refine yy ?_|apply ah;refine Cc Rx ?_|refine Cb λK hK=>?_|apply_assumption -exfalso -symm)
 refine k9 [4,6,8,11,12,13,14,15,16,17,18,19,20,21,22,23,24,25,26,27,28,29] [936] (λx:Nat × Nat=>[(11,.d (.int .i64 x.1)),(4,.own 936 x.2)]) (λx=>[(936,.row 9 1 true ((Ib ω (l.take x.1)).map .str) x.2)]) (λx=>x.1<=l.length) (λx=>l.length - x.1) (0,0) (Ak _) λ⟨j,kv⟩ hj=>?_;dsimp only[Ac,Ae]at hj ⊢;rcases Ai j l.length with hj2|hj2
 ·have h1:=jb6 l j hj2;have h2:=kz2 l[j];have h3:=kn3 ω (l.take j);have cn:=mw7 gl l[j] (by omega);simp only[r8]at cn
  (repeat' first|apply Ca 6;(refine j2 6 ?_)|refine yyp ?_;try refine Ce ?_ ?_<;>intro hb|refine yy ?_|apply Cf 70;refine Ci (hc:=cn) ?_|apply ah;refine Cc Rx ?_|refine Cb λK hK=>?_|apply_assumption -exfalso -symm)
  refine k9 [4,8,18,19,20,21,22,23,24,25,26,27,28] [936] (λx:Nat × Nat=>[(18,.d (.int .i64 x.1)),(4,.own 936 x.2)]) (λx=>[(936,.row 9 1 true (rz3 ((Ib ω (l.take j)).map .str) ((Kg l[j]).map (Db ω.is)) x.1) x.2)]) (λx=>x.1<=(Kg l[j]).length) (λx=>(Kg l[j]).length - x.1) (0,kv) (Ak _) λ⟨i,kw⟩ hi=>?_;dsimp only[Ac,Ae]at hi ⊢;rcases Ai i (Kg l[j]).length with hi2|hi2
  ·have c4:=cb (Kg l[j])[i];rw[ma5 _ _ i]
   (repeat' first|apply Ca 25;refine Ch (hc:=c4) ?_|apply Ca 26;(refine Fu 26 ?_)|refine yyp ?_;try refine Ce ?_ ?_<;>intro hb|refine yy ?_|(apply Dw;first|(refine Gj (λkv=>?_))|(refine ai (λsx sp kv hsx hsp hsl=>?_)))|apply ah;refine Cc Rx ?_|refine Cb λK hK=>?_|apply_assumption -exfalso -symm)
   refine⟨(i+1,kv),by dsimp only;omega,by dsimp only;omega,?_⟩;dsimp only;rw[ma5 _ _ (i+1),An (by rw[Ab];exact hi2)];simp only[Av,List.map_cons,Bj,List.getElem_map,Eg];exact v6
  ·rw[ma5,show((Kg l[j]).map (Db ω.is)).take i=(Kg l[j]).map (Db ω.is) from Ba (by rw[Ab];exact hi2)]
   (repeat' first|refine yyp ?_;try refine Ce ?_ ?_<;>intro hb|refine yy ?_|apply ah;refine Cc Rx ?_|refine Cb λK hK=>?_|apply_assumption -exfalso -symm)
   refine⟨(j+1,kw),by dsimp only;omega,by dsimp only;omega,?_⟩;dsimp only;rw[mj4 ω l j hj2,Av];exact v6
 ·rw[Ba hj2]
  (repeat' first|refine yyp ?_;try refine Ce ?_ ?_<;>intro hb|refine yy ?_|apply ah;refine Cc Rx ?_|refine Cb λK hK=>?_|apply_assumption -exfalso -symm)
  (refine j1 (j8 ⟨?_,rfl⟩))
  rfl
theorem jj4 {A B:List ByteArray}(h:∀ s,s∈A↔s∈B)(l:List ByteArray):jb9 A l=jb9 B l:=by
 unfold jb9;congr 1;funext s;exact decide_eq_decide.2 (h s)
theorem qt6 (A:List ByteArray)(s:ByteArray):FnE prog gl 142 [.d (.str s),.ptr 1002 0] [(1002,.box [.d (.map (Dl A) (Dn A))])] (λv H1=>v=.d (.bool (decide (s∈A)))/\H1=[(1002,.box [.d (.map (Dl A) (Dn A))])]):=by
 (refine j3 func142 ntmps142 results142 λw M E b0=>?_)
 (repeat' first|apply Ca 6;(refine jm2 (λhin=>?_) (λhin=>?_))|refine yyp ?_;try refine Ce ?_ ?_<;>intro hb|refine yy ?_|apply ah;refine Cc [0,1,3,4,5,6] ?_|refine Cb λK hK=>?_|apply_assumption -exfalso -symm)
 ·(refine j1 (j8 ⟨?_,rfl⟩))
  rw[Bm hin];rfl
 ·(refine j1 (j8 ⟨?_,rfl⟩))
  rw[Bl hin];rfl
theorem rz4 (A l:List ByteArray):FnE prog gl 44 [.d (.list 1 (l.map .str)),.clo (.func 142) [] [.ptr 1002 0]] [(1002,.box [.d (.map (Dl A) (Dn A))])] (λv H1=>∃ k:Int,(jb9 A l=decide (0<=k))/\v=.d (.int .i64 k)/\H1=[(1002,.box [.d (.map (Dl A) (Dn A))])]):=by
 (refine j3 func44 ntmps44 results44 λw M E b0=>?_)
 refine k7 0 rfl λhsm=>?_;rw[Ab]at hsm
 (repeat' first|refine yyp ?_;try refine Ce ?_ ?_<;>intro hb|refine yy ?_|apply ah;refine Cc Uv ?_|refine Cb λK hK=>?_|apply_assumption -exfalso -symm)
 refine k9 [4,5,8,9,10,11,12,13,14,15,16,17,18] [] (λj:Nat=>[(8,.d (.int .i64 j))]) (λ_=>[]) (λj=>j<=l.length/\∀ s∈l.take j,s∉A) (λj=>l.length - j) 0 ⟨Ak _,by simp⟩ λj ⟨hj,hno⟩=>?_;dsimp only[Ac,Ae];rcases Ai j l.length with hj2|hj2
 ·have c1:=qt6 gl A l[j];by_cases hin:l[j]∈A
  ·rw[Bm hin]at c1
   (repeat' first|apply Ca 16;refine Ch (hc:=c1) ?_;try refine Ce ?_ ?_<;>intro hb|refine yyp ?_;try refine Ce ?_ ?_<;>intro hb|refine yy ?_|apply ah;refine Cc Uv ?_|refine Cb λK hK=>?_|apply_assumption -exfalso -symm)
   refine j1 (j8 ⟨(j:Nat),?_,rfl,rfl⟩);have:jb9 A l=true:=Ek.2 ⟨l[j],Ao hj2,by simpa using hin⟩;rw[this];simp
  ·rw[Bl hin]at c1
   (repeat' first|apply Ca 16;refine Ch (hc:=c1) ?_;try refine Ce ?_ ?_<;>intro hb|refine yyp ?_;try refine Ce ?_ ?_<;>intro hb|refine yy ?_|apply ah;refine Cc Uv ?_|refine Cb λK hK=>?_|apply_assumption -exfalso -symm)
   refine⟨j+1,⟨by omega,λs hs=>?_⟩,by omega,v6⟩;rw[An hj2,Au,Bs]at hs;rcases hs with hs|rfl
   ·exact hno s hs
   ·exact hin
 ·rw[Ba hj2]at hno
  (repeat' first|refine yyp ?_;try refine Ce ?_ ?_<;>intro hb|refine yy ?_|apply ah;refine Cc Uv ?_|refine Cb λK hK=>?_|apply_assumption -exfalso -symm)
  refine j1 (j8 ⟨-1,?_,rfl,rfl⟩);have:jb9 A l=false:=List.any_eq_false.2 λs hs=>by simpa using hno s hs
  rw[this];simp
theorem mx0 (A l:List ByteArray):FnD prog gl 104 [.d (.map (Dl A) (Dn A)),.d (.list 1 (l.map .str))] (λv=>v=.d (.bool (jb9 A l))):=by
 have c1:=rz4 gl A l;have c2:FnE prog gl 141 [.d (.list 1 (l.map .str)),.clo (.func 142) [] [.ptr 1002 0]] [(1002,.box [.d (.map (Dl A) (Dn A))])] (λv H1=>v=.d (.bool (jb9 A l))/\H1=[(1002,.box [.d (.map (Dl A) (Dn A))])]):=by
  (refine j3 func141 ntmps141 results141 λw M E b0=>?_)
  (repeat' first|apply Ca 7;(refine Fy (hc:=c1) ?_;rintro kk hkk)|refine yyp ?_|refine yy ?_|refine yy2 ?_ ?_<;>intro hcmp|apply ah;refine Cc [0,1,4,5,6,7] ?_|refine Cb λK hK=>?_|apply_assumption -exfalso -symm)
  all_goals
   (refine j1 (j8 ⟨?_,rfl⟩))
   rw[hkk]
   first
    |(rw[Bm (by assumption)];rfl)
    |(rw[Bl (by assumption)];rfl)
 (refine j4 func104 ntmps104 results104 λw M=>?_)
 (repeat' first|apply Ca 2;(refine Ck 1002 ?_)|apply Ca 7;refine Ch (hc:=c2) ?_|refine yyp ?_|refine yy ?_|apply ah;refine Cc [0,1,2,4,5,6,7] ?_|refine Cb λK hK=>?_|apply_assumption -exfalso -symm)
 all_goals (refine j1 (j7 ?_))
 all_goals rfl
theorem rz5 (ω:Wd)(hr:Rank ω.is)(p:Pr)(a:Pr)(l:List Pr)(hl:p.l=a::l)(ha:Sc.Hz a)(he:exN p.spec.e<=10000):FnE prog gl 63 [.ptr 900 0,.d (dPr p)] (HA ω) (λv H1=>v=.d (.bool (Ik ω p.spec.kind p.spec.e a))/\H1=HA ω):=by
 have c1:=ma3 gl ω hr a ha;have c2:=ma6 gl ω hr [p.spec.e] (by simp only[Gw];omega);have c3:=ma6 gl ω hr p.spec.e.l (by have:=my7 p.spec.e;omega);have cm:=λA l=>mx0 gl A l;simp only[List.map_cons,Bj,v7,congrFun r8 p.spec.e]at c1 c2;rw[v7];dsimp only[HA]at c1 c2 c3 ⊢;unfold Ik;by_cases h2:p.spec.kind=2
 ·rw[Ad h2]
  (refine j3 func63 ntmps63 results63 λw M E b0=>?_)
  ((repeat' first|apply Ca 3;(refine Ck 3 ?_)|apply Ca 5;(refine j2 5 ?_)|apply Cg 4;refine halt ?_|refine yyp ?_;try refine Ce ?_ ?_<;>intro hb|refine yy ?_|apply ah;refine Cc Tm ?_|refine Cb λK hK=>?_|apply_assumption -exfalso -symm);all_goals try refine unhalt ?_)
  rw[v7,hl];simp only[List.map_cons]
  (repeat' first|apply Ca 24;(refine Fy (hc:=c1) ?_;rintro⟨A,B⟩ ⟨hA,hB⟩)|apply Ca 34;(refine Fu 34 ?_)|apply Ca 35;refine Ch (hc:=c2) ?_|refine yyp ?_|refine yy ?_|apply Cf 104;refine Ci (hc:=(cm _ _)) ?_|apply ah;refine Cc Tm ?_|refine Cb λK hK=>?_|apply_assumption -exfalso -symm)
  (refine j1 (j8 ⟨?_,rfl⟩))
  exact congrArg (λb=>V.d (D.bool (!b))) (jj4 hB _)
 rw[Af h2];by_cases h3:p.spec.kind=3
 ·rw[Ad h3]
  (refine j3 func63 ntmps63 results63 λw M E b0=>?_)
  ((repeat' first|apply Ca 3;(refine Ck 3 ?_)|apply Ca 5;(refine j2 5 ?_)|apply Cg 4;refine halt ?_|refine yyp ?_;try refine Ce ?_ ?_<;>intro hb|refine yy ?_|apply ah;refine Cc Tm ?_|refine Cb λK hK=>?_|apply_assumption -exfalso -symm);all_goals try refine unhalt ?_)
  rw[v7,hl];simp only[List.map_cons]
  (repeat' first|apply Ca 24;(refine Fy (hc:=c1) ?_;rintro⟨A,B⟩ ⟨hA,hB⟩)|apply Ca 42;(refine jm2 (λhin=>?_) (λhin=>?_))|apply Ca 44;refine yyp ?_;try refine Ce ?_ ?_<;>intro hb|apply Ca 50;refine Ch (hc:=c3) ?_|refine yyp ?_|refine yy ?_|apply Cf 104;refine Ci (hc:=(cm _ _)) ?_|apply ah;refine Cc Tm ?_|refine Cb λK hK=>?_|apply_assumption -exfalso -symm)
  all_goals (refine j1 (j8 ⟨?_,rfl⟩))
  ·rw[Bm ((hA _).1 hin)];rfl
  ·rw[Bl λh=>hin ((hA _).2 h)];exact congrArg (λb=>V.d (D.bool (!b))) (jj4 hB _)
 ·rw[Af h3]
  (refine j3 func63 ntmps63 results63 λw M E b0=>?_)
  (repeat' first|apply Ca 3;(refine Ck 3 ?_)|apply Ca 5;(refine j2 5 ?_)|refine yyp ?_;try refine Ce ?_ ?_<;>intro hb|refine yy ?_|apply ah;refine Cc Tm ?_|refine Cb λK hK=>?_|apply_assumption -exfalso -symm)
  (refine j1 (j8 ⟨?_,rfl⟩))
  rfl
end Al
end
section
def Uw:List Nat:=[0,1,4,5,6,7,8,9,16]
namespace Al
noncomputable def qd7 (ω:Wd)(l:List Ex):Int:=match Ih ω [] l with
 |some k=>(k:Nat)
 |none=>-1
theorem qt7 {ω:Wd}:∀ {l:List Ex} {m:List ByteArray} {k:Nat},Ih ω m l=some k->k<l.length
 |[],m,k,h=>by simp[Ih]at h
 |e::l,m,k,h=>by
  simp only[Ih]at h;split at h
  ·cases h;simp
  ·obtain⟨i,hi,rfl⟩:=Fi.1 h;have:=qt7 hi;simp only[Aj];omega
theorem rj1 {ω:Wd}{l:List Ex}{m:List ByteArray}{j:Nat}(h:Ih ω [] l=(Ih ω m (l.drop j)).map (· +j))(hj:j<l.length):(Db ω.is l[j].s∈m->Ih ω [] l=some j)/\(Db ω.is l[j].s∉m->Ih ω [] l=(Ih ω (addN m (Db ω.is l[j].s)) (l.drop (j+1))).map (· +(j+1))):=by
 rw[Bk hj]at h;simp only[Ih]at h;constructor
 ·intro hm;rw[Ad hm]at h;rw[h];simp
 ·intro hm;rw[Af hm,Option.map_map]at h;rw[h];congr 1;funext x;simp only[Function.comp];omega
attribute [local irreducible] TR TC
theorem rz6 (ω:Wd)(hr:Rank ω.is)(e:Ex)(m:List ByteArray):FnE prog gl 107 [.d (dEx e),.ptr 1002 0,.ptr 1005 0] ((1002,.box [.ptr 900 0])::(1005,.box [.map 907])::(907,.map (Dl m) (Dn m))::HA ω) (λv H1=>v=.d (.bool (decide (Db ω.is e.s∈m)))/\H1=(1002,.box [.ptr 900 0])::(1005,.box [.map 907])::(907,.map (Dl (addN m (Db ω.is e.s))) (Dn (addN m (Db ω.is e.s))))::HA ω):=by
 have cb:=kz5 gl ω e.s hr;have c2:=qt1 gl m [Db ω.is e.s];rw[show Ic m [Db ω.is e.s]=addN m (Db ω.is e.s) from rfl]at c2;simp only[List.map_cons,Bj]at c2;rw[r8];dsimp only[HA]at cb ⊢
 (refine j3 func107 ntmps107 results107 λw M E b0=>?_)
 (repeat' first|apply Ca 3;(refine Ck 3 ?_)|apply Ca 10;refine Ch (hc:=cb) ?_|apply Ca 13;(refine jx9 (λhin=>?_) (λhin=>?_))|apply Ca 16;(refine Fu 16 ?_)|apply Ca 17;refine Ch (hc:=c2) ?_|refine yyp ?_|refine yy ?_|apply ah;refine Cc [0,1,2,3,4,5,6] ?_|refine Cb λK hK=>?_|apply_assumption -exfalso -symm)
 all_goals (refine j1 (j8 ⟨?_,rfl⟩))
 ·rw[Bm hin];rfl
 ·rw[Bl hin];rfl
theorem rz7 (ω:Wd)(hr:Rank ω.is)(l:List Ex):FnE prog gl 106 [.d (.list 6 (l.map dEx)),.clo (.func 107) [] [.ptr 1002 0,.ptr 1005 0]] ((1002,.box [.ptr 900 0])::(1005,.box [.map 907])::(907,.map (Dl []) (Dn []))::HA ω) (λv H1=>∃ m:List ByteArray,True/\v=.d (.int .i64 (qd7 ω l))/\H1=(1002,.box [.ptr 900 0])::(1005,.box [.map 907])::(907,.map (Dl m) (Dn m))::HA ω):=by
 rw[r8];have ct:=λe m=>rz6 gl ω hr e m;simp only[r8]at ct;dsimp only[HA]at ct ⊢
 (refine j3 func106 ntmps106 results106 λw M E b0=>?_)
 refine k7 0 rfl λhsm=>?_;rw[Ab]at hsm
 (repeat' first|refine yyp ?_;try refine Ce ?_ ?_<;>intro hb|refine yy ?_|apply ah;refine Cc Uw ?_|refine Cb λK hK=>?_|apply_assumption -exfalso -symm)
 refine k9 [4,5,8,9,10,11,12,13,14,15,16,17,18] [907] (λx:Nat × List ByteArray=>[(8,.d (.int .i64 x.1))]) (λx=>[(907,.map (Dl x.2) (Dn x.2))]) (λx=>x.1<=l.length/\Ih ω [] l=(Ih ω x.2 (l.drop x.1)).map (· +x.1)) (λx=>l.length - x.1) (0,[]) ⟨Ak _,by simp⟩ λ⟨j,m⟩ ⟨hj,hm⟩=>?_;dsimp only[Ac,Ae]at hj hm ⊢;rcases Ai j l.length with hj2|hj2
 ·have c1:=ct l[j] m;have hst:=rj1 hm hj2;by_cases hin:Db ω.is l[j].s∈m
  ·rw[Bm hin]at c1
   (repeat' first|apply Ca 16;refine Ch (hc:=c1) ?_;try refine Ce ?_ ?_<;>intro hb|refine yyp ?_;try refine Ce ?_ ?_<;>intro hb|refine yy ?_|apply ah;refine Cc Uw ?_|refine Cb λK hK=>?_|apply_assumption -exfalso -symm)
   refine j1 (j8 ⟨_,trivial,?_,rfl⟩);unfold qd7;rw[hst.1 hin];rfl
  ·rw[Bl hin]at c1
   (repeat' first|apply Ca 16;refine Ch (hc:=c1) ?_;try refine Ce ?_ ?_<;>intro hb|refine yyp ?_;try refine Ce ?_ ?_<;>intro hb|refine yy ?_|apply ah;refine Cc Uw ?_|refine Cb λK hK=>?_|apply_assumption -exfalso -symm)
   exact⟨(j+1,_),⟨by dsimp only;omega,hst.2 hin⟩,by dsimp only;omega,v6⟩
 ·rw[Bq hj2]at hm
  (repeat' first|refine yyp ?_;try refine Ce ?_ ?_<;>intro hb|refine yy ?_|apply ah;refine Cc Uw ?_|refine Cb λK hK=>?_|apply_assumption -exfalso -symm)
  refine j1 (j8 ⟨_,trivial,?_,rfl⟩);unfold qd7;rw[hm];rfl
theorem qt8 (ω:Wd)(hr:Rank ω.is)(l:List Ex):FnE prog gl 65 [.ptr 900 0,.d (.list 6 (l.map dEx))] (HA ω) (λv H1=>v=.d (.int .i64 (qd7 ω l))/\H1=HA ω):=by
 have c1:=rz7 gl ω hr l;dsimp only[HA,Dl,Dn,Bj]at c1 ⊢
 (refine j3 func65 ntmps65 results65 λw M E b0=>?_)
 (repeat' first|apply Ca 2;(refine Ck 1002 ?_)|apply Ca 6;(refine Ir 907 ?_)|apply Ca 5;(refine j2 1005 ?_)|apply Ca 9;(refine Fy (hc:=c1) ?_;rintro m _)|refine yyp ?_;try refine Ce ?_ ?_<;>intro hb|refine yy ?_|apply ah;refine Cc [0,1,2,4,5,6,7] ?_|refine Cb λK hK=>?_|apply_assumption -exfalso -symm)
 (refine j1 (j8 ⟨?_,rfl⟩))
 rfl
end Al
end
section
def Nt:List Nat:=[0,1,3,4,5,6,7,8,9,10,11,12,24,35,36,37,38,46,59,67,77,79,86]
def jq1:Plan:=lin [0,4,8,16,13,21,25,28,32,36,42,47,48]
namespace Al
attribute [local irreducible] TR TC
theorem rz8 (ω:Wd)(hr:Rank ω.is)(p:Pr)(hl:Gw p.au<=10000):FnE prog gl 64 [.ptr 900 0,.d (dPr p)] (HA ω) (λv H1=>v=.d (.bool (Li ω p.name p.au))/\H1=HA ω):=by
 have cb:=λs=>kz5 gl ω s hr;have cm:=λA l=>mx0 gl A l;have hll:=jd0 p.au;rw[v7];dsimp only[HA]at cb ⊢;unfold Li
 (refine j3 func64 ntmps64 results64 λw M E b0=>?_)
 ((repeat' first|apply Ca 3;(refine Ck 3 ?_)|apply Ca 20;(refine km9 (λq hq=>?_) (λhq=>?_))|apply Ca 5;(refine j2 5 ?_)|apply Cg 2;refine halt ?_|refine yyp ?_;try refine Ce ?_ ?_<;>intro hb|refine yy ?_|apply ah;refine Cc Nt ?_|refine Cb λK hK=>?_|apply Cg 1;refine j0 [11] jq1 ?_|apply_assumption -exfalso -symm);all_goals try refine unhalt ?_)
 ·obtain⟨m,hm⟩:∃ m:Nat,(if ((q.ax.length:Nat):Int)<(p.au.length:Nat) then ((q.ax.length:Nat):Int) else (p.au.length:Nat))=(m:Nat)/\m<=p.au.length/\m<=q.ax.length/\(m=p.au.length\/m=q.ax.length):=by
   split
   ·exact⟨q.ax.length,rfl,by omega,by omega,.inr rfl⟩
   ·exact⟨p.au.length,rfl,by omega,by omega,.inl rfl⟩
  obtain⟨hm,hm1,hm2,hm3⟩:=hm
  ((repeat' first|apply Ca 25;(refine Ir 906 ?_)|apply Cg 6;refine halt ?_|refine yyp ?_;try refine Ce ?_ ?_<;>intro hb|refine yy ?_|apply ah;refine Cc Nt ?_|refine Cb λK hK=>?_|apply Cg 1;refine j0 [11] jq1 ?_|apply_assumption -exfalso -symm);all_goals try refine unhalt ?_)
  refine ju6 (t:=8) (e:=9) (sz:=1) 938 rfl rfl ?_;rw[r8]
  (repeat' first|apply Ca 34;(refine z_p vp1 ?_;simp only[Ab];rw[hm])|refine yyp ?_;try refine Ce ?_ ?_<;>intro hb|refine yy ?_|apply ah;refine Cc Nt ?_|refine Cb λK hK=>?_|apply Cg 1;refine j0 [11] jq1 ?_|apply_assumption -exfalso -symm)
  rw[show List.take (m - 0) (List.drop 0 (List.map dE p.au))=(p.au.take m).map dE from by simp,show((p.au.take m).map dE).length=m from by simp;omega];obtain⟨X,hX⟩:∃ X,X=p.au.take m:=⟨_,rfl⟩;have hXl:X.length=m:=by rw[hX];simp;omega
  rw[<-hX];refine k9 [4,8,9,10,11,37,38,39,40,41,42,43,44,45,46,47,48,49,50,51,52,53,54,55,56,57,58,59,60,61,62,63,64,65,66,67,68,69,70,71,72,73,74] [938,906] (λx:Nat × Nat × List ByteArray × List ByteArray=>[(37,.d (.int .i64 x.1)),(8,.own 938 x.2.1)]) (λx=>[(938,.row 9 1 true (x.2.2.2.map .str) x.2.1),(906,.map (Dl x.2.2.1) (Dn x.2.2.1))]) (λx=>x.1<=m/\x.2.2.2.length<=Gw (p.au.take x.1)/\Iu ω q.ax p.au [] []=Iu ω (q.ax.drop x.1) (p.au.drop x.1) x.2.2.1 x.2.2.2) (λx=>m - x.1) (0,0,[],[]) ⟨Ak _,Ak _,rfl⟩ λ⟨j,kv,vars,vals⟩ ⟨hj,hvl,hgo⟩=>?_;dsimp only[Ac,Ae]at hj hvl hgo ⊢;rcases Ai j m with hj2|hj2
  ·have je:j<p.au.length:=by omega
   have jf:j<q.ax.length:=by omega
   have jx:j<X.length:=by omega
   have hge:X[j]=p.au[j]:=by simp only[hX];exact List.getElem_take
   have h1:=jb6 p.au j je;have h3:=rz2 p.au (j+1);have h4:Gw (p.au.take (j+1))=Gw (p.au.take j)+exN p.au[j]:=by rw[An je,kg0];simp[Gw]
   rw[<-hge]at h1 h4;have c4:=cb X[j].s;have ce:=Ka gl X[j];have cs:=ma6 gl ω hr [X[j]] (by simp only[Gw];omega);have ca:=qt0 gl vars [Db ω.is X[j].s];rw[show Ic vars [Db ω.is X[j].s]=addN vars (Db ω.is X[j].s) from rfl]at ca;simp only[List.map_cons,Bj,r8]at ce cs ca;dsimp only[HA]at cs;have h5:=kn3 ω [X[j]];simp only[Gw]at h5;rw[Bk jf,Bk je,<-hge]at hgo;simp only[Iu]at hgo;by_cases hv:q.ax[j].val=true
   ·rw[Ad hv]at hgo
    (repeat' first|apply Ca 10;(refine j2 10 ?_)|apply Ca 45;refine Ch (hc:=c4) ?_|apply Ca 56;(refine Fu 56 ?_)|apply Ca 57;refine Ch (hc:=cs) ?_|refine yyp ?_;try refine Ce ?_ ?_<;>intro hb|refine yy ?_|(apply Dw;first|(refine Gj (λkv=>?_))|(refine ai (λsx sp kv hsx hsp hsl=>?_)))|apply ah;refine Cc Nt ?_|refine Cb λK hK=>?_|apply Cg 1;refine j0 [11] jq1 ?_|apply_assumption -exfalso -symm)
    all_goals first
     |(exfalso;simp_all;done)
     |(refine⟨(j+1,kv,vars,vals++Ib ω [X[j]]),⟨by dsimp only;omega,by dsimp only;rw[Ag];omega,hgo⟩,by dsimp only;omega,?_⟩
       dsimp only;rw[Av];exact v6)
   ·rw[Af hv]at hgo;by_cases he:ja2 X[j]=true
    ·rw[Ad he]at hgo;rw[he]at ce;by_cases hin:Db ω.is X[j].s∈vars
     ·rw[Ad hin]at hgo
      (repeat' first|apply Ca 10;(refine j2 10 ?_)|apply Ca 45;refine Ch (hc:=c4) ?_|apply Ca 65;(refine jx9 (λhin2=>?_) (λhin2=>?_))|refine yyp ?_;try refine Ce ?_ ?_<;>intro hb|refine yy ?_|apply Cf 74;refine Ci (hc:=ce) ?_;try refine Ce ?_ ?_<;>intro hb|apply ah;refine Cc Nt ?_|refine Cb λK hK=>?_|apply Cg 1;refine j0 [11] jq1 ?_|apply_assumption -exfalso -symm)
      all_goals first
       |(exfalso;simp_all;done)
       |((refine j1 (j8 ⟨?_,rfl⟩))
         rw[hq];dsimp only;rw[hgo];rfl)
     ·rw[Af hin]at hgo
      (repeat' first|apply Ca 10;(refine j2 10 ?_)|apply Ca 45;refine Ch (hc:=c4) ?_|apply Ca 65;(refine jx9 (λhin2=>?_) (λhin2=>?_))|apply Ca 72;(refine Fu 72 ?_)|apply Ca 73;refine Ch (hc:=ca) ?_|refine yyp ?_;try refine Ce ?_ ?_<;>intro hb|refine yy ?_|apply Cf 74;refine Ci (hc:=ce) ?_;try refine Ce ?_ ?_<;>intro hb|apply ah;refine Cc Nt ?_|refine Cb λK hK=>?_|apply Cg 1;refine j0 [11] jq1 ?_|apply_assumption -exfalso -symm)
      all_goals first
       |(exfalso;simp_all;done)
       |exact⟨(j+1,kv,addN vars (Db ω.is X[j].s),vals),⟨by dsimp only;omega,by dsimp only;omega,hgo⟩,by dsimp only;omega,v6⟩
    ·rw[Af he]at hgo;rw[show ja2 X[j]=false by simpa using he]at ce
     (repeat' first|apply Ca 10;(refine j2 10 ?_)|apply Ca 45;refine Ch (hc:=c4) ?_|refine yyp ?_;try refine Ce ?_ ?_<;>intro hb|refine yy ?_|apply Cf 74;refine Ci (hc:=ce) ?_;try refine Ce ?_ ?_<;>intro hb|apply ah;refine Cc Nt ?_|refine Cb λK hK=>?_|apply Cg 1;refine j0 [11] jq1 ?_|apply_assumption -exfalso -symm)
     all_goals first
      |(exfalso;simp_all;done)
      |exact⟨(j+1,kv,vars,vals),⟨by dsimp only;omega,by dsimp only;omega,hgo⟩,by dsimp only;omega,v6⟩
  ·obtain rfl:j=m:=by omega
   have hgo2:Iu ω q.ax p.au [] []=some (vars,vals):=by
    rw[hgo];rcases hm3 with h|h
    ·rw[Bq (l:=p.au) (by omega)];cases q.ax.drop j<;>simp[Iu]
    ·rw[Bq (l:=q.ax) (by omega)];simp[Iu]
   have c5:=cm vars vals;have c6:=cm q.wr vals
   ((repeat' first|apply Cg 17;refine halt ?_|refine yyp ?_;try refine Ce ?_ ?_<;>intro hb|refine yy ?_|apply ah;refine Cc Nt ?_|refine Cb λK hK=>?_|apply Cg 1;refine j0 [11] jq1 ?_|apply_assumption -exfalso -symm);all_goals try refine unhalt ?_)
   refine mp4 7 906 rfl rfl (ns:=[906]) (by(repeat (first|exact Drop.nil|apply Drop.drop rfl|apply Drop.take rfl));fail_if_success intros) rfl rfl ?_;refine jl3 (kw3 8 rfl (ToD.own rfl)) ?_
   (repeat' first|apply Ca 77;(refine mw1 1077 ?_)|refine yyp ?_;try refine Ce ?_ ?_<;>intro hb|refine yy ?_|apply ah;refine Cc Nt ?_|refine Cb λK hK=>?_|apply Cg 1;refine j0 [11] jq1 ?_|apply_assumption -exfalso -symm)
   rw[show(Dl q.occ).length=q.occ.length from Ab ..];refine k9 [4,12,78,79,80,81,82,83,84,85,86] [1077] (λ_:List Nat × Option Nat=>[]) (λx=>[(1077,.miter (Dl q.occ) (Dn q.occ) x.1 x.2)]) (λx=>(∀ i∈x.1,i<q.occ.length)/\∀ i s,q.occ[i]? =some s->i∈x.1\/Db ω.is s∉vars) (λx=>x.1.length) (List.range q.occ.length,none) ⟨λi hi=>Fh.1 hi,λi s hi=>.inl (Fh.2 (Ay.1 hi).1)⟩ λ⟨left,cur⟩ ⟨k1,k2⟩=>?_;dsimp only[Ac,Ae]at k1 k2 ⊢
   (repeat' first|apply Ca 78;(refine qs1 k1 (λi s hi hs=>?_) (λhl0=>?_))|apply Ca 80;(refine mw2 hs ?_)|apply Ca 85;refine Ch (hc:=cb _) ?_|apply Ca 86;(refine jm2 (λhin=>?_) (λhin=>?_))|refine yyp ?_;try refine Ce ?_ ?_<;>intro hb|refine yy ?_|apply Cf 104;refine Ci (hc:=(cm _ _)) ?_;try refine Ce ?_ ?_<;>intro hb|apply ah;refine Cc Nt ?_|refine Cb λK hK=>?_|apply Cg 1;refine j0 [11] jq1 ?_|apply_assumption -exfalso -symm)
   ·(refine j1 (j8 ⟨?_,rfl⟩))
    rw[hq];dsimp only;rw[hgo2];dsimp only;have:jb9 vars (q.occ.map (Db ω.is))=true:=Ek.2 ⟨Db ω.is s,Br.2 ⟨s,Ea hs,rfl⟩,by simpa using hin⟩;rw[this];rfl
   ·refine⟨(left.erase i,some i),⟨λj hj=>k1 j (List.mem_of_mem_erase hj),λj t hj=>?_⟩,?_,v6⟩
    ·rcases k2 j t hj with hm'|hm'
     ·by_cases hji:j=i
      ·subst hji;rw[hs]at hj;cases hj;exact .inr hin
      ·exact .inl ((List.mem_erase_of_ne hji).2 hm')
     ·exact .inr hm'
    ·have:=List.length_erase_of_mem hi;have:=List.length_pos_of_mem hi;dsimp only;omega
   all_goals
    have hocc:jb9 vars (q.occ.map (Db ω.is))=false:=List.any_eq_false.2 λs hs=>by
     obtain⟨t,ht,rfl⟩:=Br.1 hs;obtain⟨i,hi⟩:=List.getElem?_of_mem ht;rcases k2 i t hi with h|h
     ·rw[hl0]at h;cases h
     ·simpa using h
    (refine j1 (j8 ⟨?_,rfl⟩))
    rw[hq];dsimp only;rw[hgo2];dsimp only;rw[hocc];simp_all [aF]
 ·(repeat' first|refine yyp ?_;try refine Ce ?_ ?_<;>intro hb|refine yy ?_|apply ah;refine Cc Nt ?_|refine Cb λK hK=>?_|apply Cg 1;refine j0 [11] jq1 ?_|apply_assumption -exfalso -symm)
  (refine j1 (j8 ⟨?_,rfl⟩))
  rw[hq];rfl
end Al
end
section
def Kh:List Nat:=[0,1,3,5,7,8,9,11,13,25,37,38,39,40,55,71,72,73,74,84,111,112,113,114,125,126,127,128]
def jg8:Plan:=lin [0,4,8,16,20,13,25,30,34]
def jg9:Plan:=lin [0,4,8,16,13,21,26,30]
def jf6:Plan:=lin [0,4,8,16,20,36,40,44,13,25,28,33,49,55]
def jf7:Plan:=lin [0,4,8,16,20,36,40,48,52,13,25,28,33,45,56,63]
def jh0:Plan:=lin [0,4,8,16,20,13,25,30]
namespace Al
open Lx Sc
theorem kg1 {r:ByteArray->Nat}{q:Pr}:∀ {l:List Pr},ri8 r l->q∈l->isR r q
 |x::l,h,hq=>by
  rcases Bc.1 hq with rfl|hq
  ·exact h.1
  ·exact kg1 h.2 hq
theorem mx1 {r:ByteArray->Nat}{q:Pr}:∀ {l:List Gu},rp7 r l->q∈l.flatMap (·.body)->isR r q
 |.mk _ _ _ _ _ _ _ body::l,h,hq=>by
  simp only[rp7]at h;simp only[El,Gu.body,Au]at hq;rcases hq with hq|hq
  ·exact kg1 h.1 hq
  ·exact mx1 h.2 hq
theorem jy6 {r:ByteArray->Nat}{p q:Pr}(h:isR r p)(hq:q∈aB p):isR r q:=by
 obtain⟨kind,name,av,aj,au,rep,ak,l,ay,⟨sk,st,sn,se,spp,sf,sb⟩⟩:=p;simp only[isR]at h;simp only[aB,Au,Pr.spec,Sp.body,Pr.ak,Pr.l]at hq;rcases hq with (hq|hq)|hq
 ·exact kg1 h.2.1 hq
 ·exact mx1 h.2.2.1 hq
 ·exact kg1 h.2.2.2 hq
theorem vj9 {r:ByteArray->Nat}{p:Pr}(h:isR r p)(hk:p.spec.kind=3):∀ x∈p.spec.names.head?,r p.spec.e.s<r x:=by
 obtain⟨kind,name,av,aj,au,rep,ak,l,ay,⟨sk,st,sn,se,spp,sf,sb⟩⟩:=p;simp only[isR]at h;exact h.1 hk
theorem kg2 {r:ByteArray->Nat}{w v:Wd}{q:Pr}(h:Sim w (z1 v q))(hv:Kz r v)(hq:isR r q):Kz r w:=λx hx=>by
 rw[h.is]at hx;exact kt4 q hv hq x hx
structure SpOk (p:Pr):Prop where
 names:p.spec.kind=3\/p.spec.kind=5->∃ s l,p.spec.names=s::l
 body:p.spec.kind=5->∃ b,p.spec.body=[b]
 gus:∀ g∈p.ak,∃ b,g.body=[b]
theorem rz9 {p:Pr}(h:Gy p=true):SpOk p:=by
 have f:=jd7 h;refine⟨λhk=>?_,λhk=>?_,λg hg=>?_⟩
 ·by_cases h18:p.kind=18
  ·have:=(jy2 (f.spec h18).2).names;cases hn:p.spec.names with
   |nil=>exact absurd hn this
   |cons s l=>exact⟨s,l,rfl⟩
  ·rw[f.none h18]at hk;simp[sp0,Sp.kind]at hk
 ·by_cases h18:p.kind=18
  ·have:=(jy2 (f.spec h18).2).body hk
   match hb:p.spec.body,this with
   |[b],_=>exact⟨b,rfl⟩
  ·rw[f.none h18]at hk;simp[sp0,Sp.kind]at hk
 ·have:=(kf7 (f.gus g hg)).body
  match hb:g.body,this with
  |[b],_=>exact⟨b,rfl⟩
attribute [local irreducible] TR TC
theorem qt9 {r:ByteArray->Nat}(ω:Wd)(hω:Kz r ω)(p:Pr)(hr:isR r p)(ha:Hz p)
 (hrec:∀ q∈aB p,∀ ω:Wd,Kz r ω->FnE prog gl 41 [.ptr 900 0,.d (dPr q)] (HA ω) (λv H1=>∃ ω',Sim ω' (z1 ω q)/\v=.tup []/\H1=HA ω')):
 FnE prog gl 41 [.ptr 900 0,.d (dPr p)] (HA ω) (λv H1=>∃ ω',Sim ω' (z1 ω p)/\v=.tup []/\H1=HA ω'):=by
 have ok:=rz9 (jm3 ha);have hb1:∀ q∈p.spec.body,q∈aB p:=λq hq=>by simp only[aB,Au];exact .inl (.inl hq)
 have hb2:∀ g∈p.ak,∀ q∈g.body,q∈aB p:=λg hg q hq=>by simp only[aB,Au,List.mem_flatMap];exact .inl (.inr ⟨g,hg,hq⟩)
 have hb3:∀ q∈p.l,q∈aB p:=λq hq=>by simp only[aB,Au];exact .inr hq
 have hsets:=λ(ω2:Wd) (h2:Kz r ω2) (b:Pr) (hb:b∈aB p)=>ma3 gl ω2 h2.rank b (jj3 ha hb);simp only[v7]at hrec hsets;rw[jm4,v7];obtain⟨W1,hW1⟩:∃ W1,W1=Im ω p.rep.name p.spec.kind p.spec.names p.spec.e.s p.spec.ax:=⟨_,rfl⟩;have hR1:Kz r W1:=by rw[hW1];exact km6 hω _ _ _ _ _ (vj9 hr)
 rw[<-hW1];obtain⟨K0,hK0⟩:∃ K0,K0=Ic ω.known p.spec.names:=⟨_,rfl⟩;obtain⟨K1,hK1⟩:∃ K1,K1=if p.rep.name=ByteArray.empty then K0 else addN K0 p.rep.name:=⟨_,rfl⟩;obtain⟨K2,hK2⟩:∃ K2,K2=Ic K1 (p.spec.ax.map (·.name)):=⟨_,rfl⟩;have c1:=jj2 gl ω.known p.spec.names;have c2:=jj2 gl K0 [p.rep.name];rw[<-hK0]at c1;simp only[List.map_cons,Bj]at c2;dsimp only[HA,Ac,Ae]at hrec hsets ⊢
 (refine j3 func41 ntmps41 results41 λw M E b0=>?_)
 ((repeat' first|apply Ca 3;(refine Ck 3 ?_)|apply Ca 21;refine Ch (hc:=c1) ?_|refine ke1 2 ?_;refine halt ?_|refine yyp ?_;try refine Ce ?_ ?_<;>intro hb|refine yy ?_|apply ah;refine Cc Kh ?_|refine Cb λK hK=>?_|apply Cg 1;refine j0 [7] (lin [0,4,8,16,20,13,25,31]) ?_|apply Cg 3;refine j0 [] jg8 ?_|apply Cg 7;refine j0 [] jg9 ?_|apply Cg 10;refine j0 [13] jf6 ?_|apply Cg 18;refine j0 [15] jf7 ?_|apply_assumption -exfalso -symm);all_goals try refine unhalt ?_)
 refine jp9 [] [901] (λ_:List ByteArray=>[]) (λK=>[(901,.map (Dl K) (Dn K))]) (λK=>K=K1) ?_ ?_
 ·rw[hK1]
  (repeat' first|apply Ca 33;(refine Fu 33 ?_)|apply Ca 34;refine Ch (hc:=c2) ?_|refine yyp ?_;try refine Ce ?_ ?_<;>intro hb|refine yy ?_|refine yy2 ?_ ?_<;>intro hcmp|apply ah;refine Cc Kh ?_|refine Cb λK hK=>?_|apply Cg 1;refine j0 [] jh0 ?_|apply Cg 3;refine j0 [8] (lin [0,4,8,16,20,13,25,30,35]) ?_|apply Cg 7;refine j0 [] jg9 ?_|apply Cg 10;refine j0 [13] jf6 ?_|apply Cg 18;refine j0 [15] jf7 ?_|apply_assumption -exfalso -symm)
  all_goals first
   |(refine⟨Ic K0 [p.rep.name],?_,v6⟩;rw[Af (by assumption)];rfl)
   |(refine⟨K0,?_,v6⟩;rw[Ad (by first|assumption|grind)])
 intro Kx hKx;rw[hKx];clear hKx Kx;dsimp only[Ac,Ae]
 (repeat' first|refine yyp ?_;try refine Ce ?_ ?_<;>intro hb|refine yy ?_|apply ah;refine Cc Kh ?_|refine Cb λK hK=>?_|apply Cg 1;refine j0 [] jh0 ?_|apply Cg 3;refine j0 [] jg8 ?_|apply Cg 7;refine j0 [] jg9 ?_|apply Cg 10;refine j0 [13] jf6 ?_|apply Cg 18;refine j0 [15] jf7 ?_|apply_assumption -exfalso -symm)
 refine k7 37 rfl λhsm=>?_;simp only[Ab]at hsm;refine k9 [5,39,40,41,42,43,44,45,46,47,48,49,50,51] [901] (λj:Nat=>[(39,.d (.int .i64 j))]) (λj=>[(901,.map (Dl (Ic K1 ((p.spec.ax.take j).map (·.name)))) (Dn (Ic K1 ((p.spec.ax.take j).map (·.name)))))]) (λj=>j<=p.spec.ax.length) (λj=>p.spec.ax.length - j) 0 (Ak _) λj hj=>?_;dsimp only[Ac,Ae];rcases Ai j p.spec.ax.length with hj2|hj2
 ·have c3:=jj2 gl (Ic K1 ((p.spec.ax.take j).map (·.name))) [p.spec.ax[j].name];rw[ma1,show((p.spec.ax.take j).map (·.name))++[p.spec.ax[j].name]=(p.spec.ax.take (j+1)).map (·.name) by rw[An hj2,Av];rfl]at c3;simp only[List.map_cons,Bj]at c3
  (repeat' first|apply Ca 5;(refine j2 5 ?_)|apply Ca 49;(refine Fu 49 ?_)|apply Ca 50;refine Ch (hc:=c3) ?_|refine yyp ?_;try refine Ce ?_ ?_<;>intro hb|refine yy ?_|apply ah;refine Cc Kh ?_|refine Cb λK hK=>?_|apply Cg 1;refine j0 [] jh0 ?_|apply Cg 3;refine j0 [] jg8 ?_|apply Cg 7;refine j0 [7] (lin [0,4,8,16,13,21,26,31]) ?_|apply Cg 10;refine j0 [13] jf6 ?_|apply Cg 18;refine j0 [15] jf7 ?_|apply_assumption -exfalso -symm)
  exact⟨j+1,by omega,by omega,v6⟩
 obtain rfl:j=p.spec.ax.length:=by omega
 rw[Bv,<-hK2]
 ((repeat' first|refine ke1 9 ?_;refine halt ?_|refine yyp ?_;try refine Ce ?_ ?_<;>intro hb|refine yy ?_|apply ah;refine Cc Kh ?_|refine Cb λK hK=>?_|apply Cg 1;refine j0 [] jh0 ?_|apply Cg 3;refine j0 [] jg8 ?_|apply Cg 7;refine j0 [] jg9 ?_|apply Cg 10;refine j0 [13] jf6 ?_|apply Cg 18;refine j0 [15] jf7 ?_|apply_assumption -exfalso -symm);all_goals try refine unhalt ?_)
 refine jp9 [] [902] (λ_:List (ByteArray × ByteArray)=>[]) (λl=>[(902,.map (Me l) (Mt .str l))]) (λl=>(⟨K2,l,ω.ay⟩:Wd)=W1) ?_ ?_
 ·rw[hW1];unfold Im;dsimp only;rw[<-hK0,<-hK1,<-hK2];by_cases h3:p.spec.kind=3
  ·obtain⟨s0,ns,hn⟩:=ok.names (.inl h3);rw[Ad h3,hn]
   (repeat' first|refine ke4 13 ?_;(refine mw0 (f:=.str) (a:=p.spec.e.s) ?_)|refine yyp ?_;try refine Ce ?_ ?_<;>intro hb|refine yy ?_|apply ah;refine Cc Kh ?_|refine Cb λK hK=>?_|apply Cg 1;refine j0 [] jh0 ?_|apply Cg 3;refine j0 [] jg8 ?_|apply Cg 7;refine j0 [] jg9 ?_|apply Cg 10;refine j0 [13] jf6 ?_|apply Cg 18;refine j0 [15] jf7 ?_|apply_assumption -exfalso -symm)
   exact⟨up1 s0 p.spec.e.s ω.is,rfl,v6⟩
  ·rw[Af h3]
   (repeat' first|refine yyp ?_;try refine Ce ?_ ?_<;>intro hb|refine yy ?_|apply ah;refine Cc Kh ?_|refine Cb λK hK=>?_|apply Cg 1;refine j0 [] jh0 ?_|apply Cg 3;refine j0 [] jg8 ?_|apply Cg 7;refine j0 [] jg9 ?_|apply Cg 10;refine j0 [13] jf6 ?_|apply Cg 18;refine j0 [15] jf7 ?_|apply_assumption -exfalso -symm)
   exact⟨ω.is,rfl,v6⟩
 rintro is2 hW;dsimp only[Ac,Ae]
 (repeat' first|refine yyp ?_;try refine Ce ?_ ?_<;>intro hb|refine yy ?_|apply ah;refine Cc Kh ?_|refine Cb λK hK=>?_|apply Cg 1;refine j0 [] jh0 ?_|apply Cg 3;refine j0 [] jg8 ?_|apply Cg 7;refine j0 [] jg9 ?_|apply Cg 10;refine j0 [13] jf6 ?_|apply Cg 18;refine j0 [15] jf7 ?_|apply_assumption -exfalso -symm)
 rw[v7];refine k7 71 rfl λhsm2=>?_;simp only[Ab]at hsm2;refine k9 [7,73,74,75,76,77,78,79,80] [901,902,903] (λx:Nat × Wd=>[(73,.d (.int .i64 x.1))]) (λx=>[(901,.map (Dl x.2.known) (Dn x.2.known)),(902,.map (Me x.2.is) (Mt .str x.2.is)),(903,.map (Me x.2.ay) (Mt dPc x.2.ay))]) (λx=>x.1<=p.spec.body.length/\Sim x.2 (Df W1 (p.spec.body.take x.1))/\Kz r x.2) (λx=>p.spec.body.length - x.1) (0,⟨K2,is2,ω.ay⟩) ⟨Ak _,by rw[hW];exact Sim.refl _,by rw[hW];exact hR1⟩ λ⟨j,ω2⟩ ⟨hj,hS,hR⟩=>?_;dsimp only[Ac,Ae]at hj hS hR ⊢;rcases Ai j p.spec.body.length with hj2|hj2
 ·have hq:=hb1 _ (Ao hj2);have hone:=hrec p.spec.body[j] hq ω2 hR
  (repeat' first|apply Ca 7;(refine j2 7 ?_)|apply Ca 79;(refine Fy (hc:=hone) ?_;rintro ω3 hS3)|refine yyp ?_;try refine Ce ?_ ?_<;>intro hb|refine yy ?_|apply ah;refine Cc Kh ?_|refine Cb λK hK=>?_|apply Cg 1;refine j0 [] jh0 ?_|apply Cg 3;refine j0 [] jg8 ?_|apply Cg 7;refine j0 [] jg9 ?_|apply Cg 10;refine j0 [13] jf6 ?_|apply Cg 18;refine j0 [15] jf7 ?_|apply_assumption -exfalso -symm)
  refine⟨(j+1,ω3),⟨by dsimp only;omega,?_,kg2 hS3 hR (jy6 hr hq)⟩,by dsimp only;omega,v6⟩;dsimp only;rw[jy5 _ _ _ hj2];exact hS3.trans (jy4 _ hS)
 rw[Ba hj2]at hS
 ((repeat' first|refine ke1 16 ?_;refine halt ?_|refine yyp ?_;try refine Ce ?_ ?_<;>intro hb|refine yy ?_|apply ah;refine Cc Kh ?_|refine Cb λK hK=>?_|apply Cg 1;refine j0 [] jh0 ?_|apply Cg 3;refine j0 [] jg8 ?_|apply Cg 7;refine j0 [] jg9 ?_|apply Cg 10;refine j0 [13] jf6 ?_|apply Cg 18;refine j0 [15] jf7 ?_|apply_assumption -exfalso -symm);all_goals try refine unhalt ?_)
 obtain⟨W2,hW2⟩:∃ W2,W2=Df W1 p.spec.body:=⟨_,rfl⟩;rw[<-hW2]at hS ⊢;obtain⟨W3,hW3⟩:∃ W3,W3=Js W2 p.spec.kind p.spec.names p.spec.ax (Ut W2 p.spec.body) (wrB W2 p.spec.body):=⟨_,rfl⟩;rw[<-hW3];refine jp9 [] [903] (λ_:List (ByteArray × Pc)=>[]) (λl=>[(903,.map (Me l) (Mt dPc l))]) (λl=>Sim ⟨ω2.known,ω2.is,l⟩ W3) ?_ ?_
 ·rw[hW3];by_cases h5:p.spec.kind=5
  ·obtain⟨s0,ns,hn⟩:=ok.names (.inr h5);obtain⟨b,hb⟩:=ok.body h5;have c5:=hsets ω2 hR b (hb1 b (by rw[hb];exact Aw));rw[hn,hb];simp only[List.map_cons,Bj]
   (repeat' first|apply Ca 92;(refine Fy (hc:=c5) ?_;rintro⟨A,B⟩ ⟨hA,hB⟩)|refine ke4 15 ?_;(refine mw0 (f:=dPc) (a:=⟨p.spec.ax,A,B⟩) ?_)|refine yyp ?_;try refine Ce ?_ ?_<;>intro hb|refine yy ?_|apply ah;refine Cc Kh ?_|refine Cb λK hK=>?_|apply Cg 1;refine j0 [] jh0 ?_|apply Cg 3;refine j0 [] jg8 ?_|apply Cg 7;refine j0 [] jg9 ?_|apply Cg 10;refine j0 [13] jf6 ?_|apply Cg 18;refine j0 [15] jf7 ?_|apply_assumption -exfalso -symm)
   refine⟨up1 s0 ⟨p.spec.ax,A,B⟩ ω2.ay,?_,v6⟩;have:=hS.Js p.spec.kind (s0::ns) p.spec.ax (occ:=A) (wr:=B) (occ':=Ut W2 [b]) (wr':=wrB W2 [b]) (λs=>(hA s).trans (hS.occ b s)) (λs=>(hB s).trans (hS.wr b s));have e:Js ω2 p.spec.kind (s0::ns) p.spec.ax A B=⟨ω2.known,ω2.is,up1 s0 ⟨p.spec.ax,A,B⟩ ω2.ay⟩:=by unfold Js;rw[Ad h5]
   rw[e]at this;exact this
  ·(repeat' first|refine yyp ?_;try refine Ce ?_ ?_<;>intro hb|refine yy ?_|apply ah;refine Cc Kh ?_|refine Cb λK hK=>?_|apply Cg 1;refine j0 [] jh0 ?_|apply Cg 3;refine j0 [] jg8 ?_|apply Cg 7;refine j0 [] jg9 ?_|apply Cg 10;refine j0 [13] jf6 ?_|apply Cg 18;refine j0 [15] jf7 ?_|apply_assumption -exfalso -symm)
   refine⟨ω2.ay,?_,v6⟩;have e:Js W2 p.spec.kind p.spec.names p.spec.ax (Ut W2 p.spec.body) (wrB W2 p.spec.body)=W2:=by unfold Js;rw[Af h5]
   rw[e];exact hS
 rintro ps2 hS2;dsimp only[Ac,Ae]
 (repeat' first|refine yyp ?_;try refine Ce ?_ ?_<;>intro hb|refine yy ?_|apply ah;refine Cc Kh ?_|refine Cb λK hK=>?_|apply Cg 1;refine j0 [] jh0 ?_|apply Cg 3;refine j0 [] jg8 ?_|apply Cg 7;refine j0 [] jg9 ?_|apply Cg 10;refine j0 [13] jf6 ?_|apply Cg 18;refine j0 [15] jf7 ?_|apply_assumption -exfalso -symm)
 rw[jb7];refine k7 111 rfl λhsm3=>?_;simp only[Ab]at hsm3;refine k9 [11,113,114,115,116,117,118,119,120,121,122,123] [901,902,903] (λx:Nat × Wd=>[(113,.d (.int .i64 x.1))]) (λx=>[(901,.map (Dl x.2.known) (Dn x.2.known)),(902,.map (Me x.2.is) (Mt .str x.2.is)),(903,.map (Me x.2.ay) (Mt dPc x.2.ay))]) (λx=>x.1<=p.ak.length/\Sim x.2 (Gp W3 (p.ak.take x.1))/\Kz r x.2) (λx=>p.ak.length - x.1) (0,⟨ω2.known,ω2.is,ps2⟩) ⟨Ak _,hS2,hR⟩ λ⟨j,ω4⟩ ⟨hj,hS4,hR4⟩=>?_;dsimp only[Ac,Ae]at hj hS4 hR4 ⊢;rcases Ai j p.ak.length with hj2|hj2
 ·obtain⟨b,hb⟩:=ok.gus _ (Ao hj2);have hq:=hb2 _ (Ao hj2) b (by rw[hb];exact Aw);have hone:=hrec b hq ω4 hR4
  ((repeat' first|apply Ca 11;(refine j2 11 ?_)|apply Cg 22;refine halt ?_|refine yyp ?_;try refine Ce ?_ ?_<;>intro hb|refine yy ?_|apply ah;refine Cc Kh ?_|refine Cb λK hK=>?_|apply Cg 1;refine j0 [] jh0 ?_|apply Cg 3;refine j0 [] jg8 ?_|apply Cg 7;refine j0 [] jg9 ?_|apply Cg 10;refine j0 [13] jf6 ?_|apply Cg 18;refine j0 [15] jf7 ?_|apply_assumption -exfalso -symm);all_goals try refine unhalt ?_)
  rw[v7,hb];simp only[List.map_cons,Bj]
  (repeat' first|apply Ca 122;(refine Fy (hc:=hone) ?_;rintro ω5 hS5)|refine yyp ?_;try refine Ce ?_ ?_<;>intro hb|refine yy ?_|apply ah;refine Cc Kh ?_|refine Cb λK hK=>?_|apply Cg 1;refine j0 [] jh0 ?_|apply Cg 3;refine j0 [] jg8 ?_|apply Cg 7;refine j0 [] jg9 ?_|apply Cg 10;refine j0 [13] jf6 ?_|apply Cg 18;refine j0 [15] jf7 ?_|apply_assumption -exfalso -symm)
  refine⟨(j+1,ω5),⟨by dsimp only;omega,?_,kg2 hS5 hR4 (jy6 hr hq)⟩,by dsimp only;omega,v6⟩;dsimp only;rw[ma4 _ _ _ hj2 hb];exact hS5.trans (jy4 _ hS4)
 rw[Ba hj2]at hS4
 (repeat' first|refine yyp ?_;try refine Ce ?_ ?_<;>intro hb|refine yy ?_|apply ah;refine Cc Kh ?_|refine Cb λK hK=>?_|apply Cg 1;refine j0 [] jh0 ?_|apply Cg 3;refine j0 [] jg8 ?_|apply Cg 7;refine j0 [] jg9 ?_|apply Cg 10;refine j0 [13] jf6 ?_|apply Cg 18;refine j0 [15] jf7 ?_|apply_assumption -exfalso -symm)
 refine k7 125 rfl λhsm4=>?_;simp only[Ab]at hsm4;refine k9 [13,127,128,129,130,131,132,133,134] [901,902,903] (λx:Nat × Wd=>[(127,.d (.int .i64 x.1))]) (λx=>[(901,.map (Dl x.2.known) (Dn x.2.known)),(902,.map (Me x.2.is) (Mt .str x.2.is)),(903,.map (Me x.2.ay) (Mt dPc x.2.ay))]) (λx=>x.1<=p.l.length/\Sim x.2 (Df (Gp W3 p.ak) (p.l.take x.1))/\Kz r x.2) (λx=>p.l.length - x.1) (0,ω4) ⟨Ak _,hS4,hR4⟩ λ⟨j,ω6⟩ ⟨hj,hS6,hR6⟩=>?_;dsimp only[Ac,Ae]at hj hS6 hR6 ⊢;rcases Ai j p.l.length with hj2|hj2
 ·have hq:=hb3 _ (Ao hj2);have hone:=hrec p.l[j] hq ω6 hR6
  (repeat' first|apply Ca 13;(refine j2 13 ?_)|apply Ca 133;(refine Fy (hc:=hone) ?_;rintro ω7 hS7)|refine yyp ?_;try refine Ce ?_ ?_<;>intro hb|refine yy ?_|apply ah;refine Cc Kh ?_|refine Cb λK hK=>?_|apply Cg 1;refine j0 [] jh0 ?_|apply Cg 3;refine j0 [] jg8 ?_|apply Cg 7;refine j0 [] jg9 ?_|apply Cg 10;refine j0 [13] jf6 ?_|apply Cg 18;refine j0 [15] jf7 ?_|apply_assumption -exfalso -symm)
  refine⟨(j+1,ω7),⟨by dsimp only;omega,?_,kg2 hS7 hR6 (jy6 hr hq)⟩,by dsimp only;omega,v6⟩;dsimp only;rw[jy5 _ _ _ hj2];exact hS7.trans (jy4 _ hS6)
 rw[Ba hj2]at hS6
 (repeat' first|refine yyp ?_;try refine Ce ?_ ?_<;>intro hb|refine yy ?_|apply ah;refine Cc Kh ?_|refine Cb λK hK=>?_|apply Cg 1;refine j0 [] jh0 ?_|apply Cg 3;refine j0 [] jg8 ?_|apply Cg 7;refine j0 [] jg9 ?_|apply Cg 10;refine j0 [13] jf6 ?_|apply Cg 18;refine j0 [15] jf7 ?_|apply_assumption -exfalso -symm)
 exact ji3 ⟨ω6,hS6,rfl,rfl⟩
theorem qu0 {r:ByteArray->Nat}:∀ (n:Nat) (p:Pr),SizeOf.sizeOf p<=n->isR r p->Hz p->∀ ω:Wd,Kz r ω->FnE prog gl 41 [.ptr 900 0,.d (dPr p)] (HA ω) (λv H1=>∃ ω',Sim ω' (z1 ω p)/\v=.tup []/\H1=HA ω'):=by
 intro n
 induction n with
 |zero=>intro p h;cases p;simp only[Pr.mk.sizeOf_spec]at h;omega
 |succ n ih=>
  intro p hp hr ha ω hω;refine qt9 gl ω hω p hr ha λq hq ω2 h2=>ih q ?_ (jy6 hr hq) (jj3 ha hq) ω2 h2;have:=jb0 hq;omega
end Al
end
section
namespace Al
open Lx Sc
def hdP:List Pr->Pr
 |b::_=>b
 |[]=>pr0
theorem mx2 {w:Wd}(p:Pr):brB w p=true↔(p.kind=18/\Ik w p.spec.kind p.spec.e (hdP p.l)=false)\/(p.kind=17/\Li w p.name p.au=false)\/Mc w p.aj=true\/(∃ g∈p.ak,Mc w g.aj=true)\/∃ x∈aB p,brB w x=true:=by
 obtain⟨kind,name,av,aj,au,rep,ak,l,ay,⟨sk,st,sn,se,spp,sf,sb⟩⟩:=p;have h1:∀ l:List Pr,Ru w l=true↔∃ q∈l,brB w q=true:=λl=>by
  induction l with
  |nil=>simp[Ru]
  |cons x l ih=>simp[Ru,ih]
 have h2:∀ l:List Gu,Te w l=true↔(∃ g∈l,Mc w g.aj=true)\/∃ q∈l.flatMap (·.body),brB w q=true:=λl=>by
  induction l with
  |nil=>simp[Te]
  |cons x l ih=>
   obtain⟨_,_,_,_,_,_,_,body⟩:=x;simp only[Te,Bn,ih,h1,El,Gu.body,Au,Bc];constructor
   ·rintro((h|⟨q,hq,h⟩)|⟨g,hg,h⟩|⟨q,hq,h⟩)
    ·exact .inl ⟨_,.inl rfl,h⟩
    ·exact .inr ⟨q,.inl hq,h⟩
    ·exact .inl ⟨g,.inr hg,h⟩
    ·exact .inr ⟨q,.inr hq,h⟩
   ·rintro(⟨g,rfl|hg,h⟩|⟨q,hq|hq,h⟩)
    ·exact .inl (.inl h)
    ·exact .inr (.inl ⟨g,hg,h⟩)
    ·exact .inl (.inr ⟨q,hq,h⟩)
    ·exact .inr (.inr ⟨q,hq,h⟩)
 have h3:(match l with|a::_=>a|[]=>pr0)=hdP l:=by cases l<;>rfl
 simp only[brB,h3,Bn,Aa,Ed,Bz,h1,h2,aB,Au,Pr.kind,Pr.spec,Sp.kind,Sp.e,Pr.l,Pr.name,Pr.au,Pr.aj,Pr.ak,Sp.body]
 grind
theorem mx3 (w:Wd)(l:List Ex):(0<=qd7 w l↔Mc w l=true)/\(Mc w l=true->∃ k:Nat,qd7 w l=k/\k<l.length):=by
 unfold qd7 Mc;cases h:Ih w [] l with
 |none=>simp
 |some k=>exact⟨by simp,λ_=>⟨k,rfl,qt7 h⟩⟩
theorem jn7:∀ {a c:List Pr},y9 a c->∀ {b d:List Pr},y9 b d->y9 (a++b) (c++d)
 |[],c,h,b,d,k=>by
  simp only[y9]at h;rw[h];exact k
 |x::a,c,h,b,d,k=>by
  simp only[y9]at h;obtain⟨q,r,rfl,h1,h2⟩:=h;simp only[Ac,y9];exact⟨q,r++d,rfl,h1,jn7 h2 k⟩
theorem kn4:∀ {l m:List Pr},y9 l m->∀ (i:Nat) (h:i<l.length) (h':i<m.length),jk3 l[i] m[i]
 |x::l,m,h,i,hi,hm=>by
  simp only[y9]at h;obtain⟨q,r,rfl,h1,h2⟩:=h;cases i with
  |zero=>exact h1
  |succ i=>exact kn4 h2 i (by simpa using hi) (by simpa using hm)
theorem jt5:∀ {l m:List Gu},n7 l m->y9 (l.flatMap (·.body)) (m.flatMap (·.body))
 |[],m,h=>by
  simp only[n7]at h;rw[h];simp[y9]
 |.mk kind name cond av aj values time body::l,m,h=>by
  simp only[n7]at h;obtain⟨k,r,rfl,h1,h2⟩:=h;simp only[jn9]at h1;simp only[El,Gu.body];exact jn7 h1.2.2.2.2.2.2.2 (jt5 h2)
theorem Mq:∀ {l m:List Gu},n7 l m->m.length=l.length
 |[],m,h=>by simp only[n7]at h;rw[h]
 |e::l,m,h=>by
  simp only[n7]at h;obtain⟨f,r,rfl,_,h2⟩:=h;simp[Mq h2]
theorem Kq:∀ {l m:List Ex},Dr l m->m.length=l.length
 |[],m,h=>by simp only[Dr]at h;rw[h]
 |e::l,m,h=>by
  simp only[Dr]at h;obtain⟨f,r,rfl,_,h2⟩:=h;simp[Kq h2]
theorem kn5:∀ {l m:List Gu},n7 l m->∀ (i:Nat) (h:i<l.length) (h':i<m.length),m[i].aj.length=l[i].aj.length
 |.mk kind name cond av aj values time body::l,m,h,i,hi,hm=>by
  simp only[n7]at h;obtain⟨k,r,rfl,h1,h2⟩:=h;simp only[jn9]at h1;cases i with
  |zero=>exact Kq h1.2.2.2.2.1
  |succ i=>exact kn5 h2 i (by simpa using hi) (by simpa using hm)
structure Alike (p q:Pr):Prop where
 kind:q.kind=p.kind
 aj:q.aj.length=p.aj.length
 ak:q.ak.length=p.ak.length
 body:q.spec.body.length=p.spec.body.length
 l:q.l.length=p.l.length
 gt:∀ (i:Nat) (h:i<p.ak.length) (h':i<q.ak.length),q.ak[i].aj.length=p.ak[i].aj.length
 parts:y9 (aB p) (aB q)
theorem vk0 {p q:Pr}(h:jk3 p q):Alike p q:=by
 obtain⟨kind,name,av,aj,au,rep,ak,l,ay,⟨sk,st,sn,se,spp,sf,sb⟩⟩:=p;simp only[jk3]at h;obtain⟨h1,_,_,h2,_,_,h3,h4,_,_,_,_,_,_,_,h5⟩:=h;exact⟨h1,Kq h2,Mq h3,jd6 h5,jd6 h4,λi hi hi'=>kn5 h3 i hi hi',jn7 (jn7 h5 (jt5 h3)) h4⟩
theorem mj5:∀ {l:List Gu},(∀ g∈l,∃ b,g.body=[b])->l.flatMap (·.body)=l.map λg=>hdP g.body
 |[],_=>rfl
 |g::l,h=>by
  obtain⟨b,hb⟩:=h g Aw;rw[El,mj5 λg hg=>h g (Ax _ hg),List.map_cons,hb];rfl
def dG1 (g:Gu):D:=.agg [.int .u8 g.kind,.str g.name,
    .int .u8 g.cond.kind,.int .u8 g.cond.op,.int .u8 g.cond.ty,.int .i32 g.cond.n,.str g.cond.s,.list 6 (g.cond.l.map dEx),
    .int .u8 g.av.kind,.int .u8 g.av.op,.int .u8 g.av.ty,.int .i32 g.av.n,.str g.av.s,.list 6 (g.av.l.map dEx),
    .list 6 (g.aj.map dE),.list 6 (g.values.map dEx),
    .int .u8 g.time.kind,.int .u8 g.time.op,.int .u8 g.time.ty,.int .i32 g.time.n,.str g.time.s,.list 6 (g.time.l.map dEx),
    .list 42 [dP (hdP g.body)]]
theorem rq0 {l:List Gu}(h:∀ g∈l,∃ b,g.body=[b]):l.map dGu=l.map dG1:=by
 refine List.map_congr_left λg hg=>?_;obtain⟨b,hb⟩:=h g hg;rw[jb7];unfold dG dG1;rw[hb,v7,r8];rfl
theorem mx4 {p:Pr}(h:∀ g∈p.ak,∃ b,g.body=[b]):aB p=p.spec.body++(p.ak.map λg=>hdP g.body)++p.l:=by
 unfold aB;rw[mj5 h]
end Al
end
end Go.Proofs.YtklklgfpkpglgaaGreatDoor
