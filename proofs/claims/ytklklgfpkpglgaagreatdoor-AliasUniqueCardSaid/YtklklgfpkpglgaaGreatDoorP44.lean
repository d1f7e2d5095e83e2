/- Parts: A16, A17, A15. -/
import Derived.Test.YtklklgfpkpglgaaGreatDoorP43
set_option linter.all false
set_option maxRecDepth 100000
set_option maxHeartbeats 16000000
namespace Go.Proofs.YtklklgfpkpglgaaGreatDoor
open Go.RowKit Go.Proofs.Tryz
section
def Rn:List Nat:=[0,1,4,6,8,9,10,11,12,16,17,18,19]
def Tt:List Nat:=[0,1,4,5,6,7,8,9,16]
def Sr:List Nat:=[0,1,3,4,5,6,7,17,29]
namespace Al
theorem mh7 (ω:Wd)(l:List Ex)(j:Nat)(h:j<l.length):Jd ω (l.take (j+1))=Jd ω (l.take j)++(jy9 l[j]).map (Dw ω.is):=by
 unfold Jd;rw[ks6 l j h,As]
theorem kn8 (ω:Wd)(l:List Ex):(Jd ω l).length<=Gj l:=by
 unfold Jd;rw[Ab];exact jz0 l
theorem ro9 (l:List Ex)(j:Nat):Gj (l.take j)<=Gj l:=by
 have:Gj l=Gj (l.take j)+Gj (l.drop j):=by rw[<-kh5,List.take_append_drop]
 omega
def rp1 (A:List D)(B:List ByteArray):Nat->List D
 |0=>A
 |i+1=>A++(B.take (i+1)).map .str
theorem kz6 (A:List D)(B:List ByteArray)(i:Nat):rp1 A B i=A++(B.take i).map .str:=by
 cases i with
 |zero=>simp[rp1]
 |succ i=>rfl
attribute [local irreducible] TR TC
theorem kz7 (gl:List (Nat × List D))(ω:Wd)(hr:Rank ω.is)(l:List Ex)(hl:Gj l<=100000000):FnE prog gl 105 [.ptr 900 0,.d (.list 6 (l.map dEx))] (HA ω) (fun v H1=>v=.d (.list 1 ((Jd ω l).map .str))/\H1=HA ω):=by
 have cb:=fun s=>ky6 gl ω s hr;have hll:=n5 l;rw[k9];dsimp only[HA]at cb ⊢
 (refine j2 func105 ntmps105 results105 fun w M E b0=>?_)
 ((repeat' first|refine Cf 1 ?_;refine halt ?_|refine yyp ?_;try refine Ce ?_ ?_<;>intro hb|refine yy ?_|refine at_nil ?_;refine Cc Rn ?_|refine Cb fun K hK=>?_|apply_assumption -exfalso -symm);all_goals try refine unhalt ?_)
 refine jv6 (t:=4) (e:=9) (sz:=1) 936 rfl rfl ?_
 (repeat' first|refine yyp ?_;try refine Ce ?_ ?_<;>intro hb|refine yy ?_|refine at_nil ?_;refine Cc Rn ?_|refine Cb fun K hK=>?_|apply_assumption -exfalso -symm)
 refine j6 [4,6,8,11,12,13,14,15,16,17,18,19,20,21,22,23,24,25,26,27,28,29] [936] (fun x:Nat × Nat=>[(11,.d (.int .i64 x.1)),(4,.own 936 x.2)]) (fun x=>[(936,.row 9 1 true ((Jd ω (l.take x.1)).map .str) x.2)]) (fun x=>x.1<=l.length) (fun x=>l.length - x.1) (0,0) (Ai _) fun⟨j,kv⟩ hj=>?_;dsimp only[Ac,Af]at hj ⊢;rcases Ah j l.length with hj2|hj2
 ·have h1:=z1 l j hj2;have h2:=kx8 l[j];have h3:=kn8 ω (l.take j);have cn:=mv4 gl l[j] (by omega);simp only[k9]at cn
  (repeat' first|refine Ca 6 ?_;(refine j3 6 ?_)|refine yyp ?_;try refine Ce ?_ ?_<;>intro hb|refine yy ?_|refine Ch 70 ?_;refine Ck (hc:=cn) ?_|refine at_nil ?_;refine Cc Rn ?_|refine Cb fun K hK=>?_|apply_assumption -exfalso -symm)
  refine j6 [4,8,18,19,20,21,22,23,24,25,26,27,28] [936] (fun x:Nat × Nat=>[(18,.d (.int .i64 x.1)),(4,.own 936 x.2)]) (fun x=>[(936,.row 9 1 true (rp1 ((Jd ω (l.take j)).map .str) ((jy9 l[j]).map (Dw ω.is)) x.1) x.2)]) (fun x=>x.1<=(jy9 l[j]).length) (fun x=>(jy9 l[j]).length - x.1) (0,kv) (Ai _) fun⟨i,kw⟩ hi=>?_;dsimp only[Ac,Af]at hi ⊢;rcases Ah i (jy9 l[j]).length with hi2|hi2
  ·have c4:=cb (jy9 l[j])[i];rw[kz6 _ _ i]
   (repeat' first|refine Ca 25 ?_;refine Cg (hc:=c4) ?_|refine Ca 26 ?_;(refine Dn 26 ?_)|refine yyp ?_;try refine Ce ?_ ?_<;>intro hb|refine yy ?_|(refine Da ?_;first|(refine Df (fun kv=>?_))|(refine z_append_suf (fun sx sp kv hsx hsp hsl=>?_)))|refine at_nil ?_;refine Cc Rn ?_|refine Cb fun K hK=>?_|apply_assumption -exfalso -symm)
   refine⟨(i+1,kv),by dsimp only;omega,by dsimp only;omega,?_⟩;dsimp only;rw[kz6 _ _ (i+1),Ao (by rw[Ab];exact hi2)];simp only[As,Aq,Ax,List.getElem_map,Bv];exact k8
  ·rw[kz6,show((jy9 l[j]).map (Dw ω.is)).take i=(jy9 l[j]).map (Dw ω.is) from Am (by rw[Ab];exact hi2)]
   (repeat' first|refine yyp ?_;try refine Ce ?_ ?_<;>intro hb|refine yy ?_|refine at_nil ?_;refine Cc Rn ?_|refine Cb fun K hK=>?_|apply_assumption -exfalso -symm)
   refine⟨(j+1,kw),by dsimp only;omega,by dsimp only;omega,?_⟩;dsimp only;rw[mh7 ω l j hj2,As];exact k8
 ·rw[Am hj2]
  (repeat' first|refine yyp ?_;try refine Ce ?_ ?_<;>intro hb|refine yy ?_|refine at_nil ?_;refine Cc Rn ?_|refine Cb fun K hK=>?_|apply_assumption -exfalso -symm)
  (refine j1 (j4 ⟨?_,rfl⟩))
  rfl
theorem jk3 {A B:List ByteArray}(h:∀ s,s∈A↔s∈B)(l:List ByteArray):je4 A l=je4 B l:=by
 unfold je4;congr 1;funext s;exact decide_eq_decide.2 (h s)
theorem qo4 (gl:List (Nat × List D))(A:List ByteArray)(s:ByteArray):FnE prog gl 142 [.d (.str s),.ptr 1002 0] [(1002,.box [.d (.map (Dq A) (Dr A))])] (fun v H1=>v=.d (.bool (decide (s∈A)))/\H1=[(1002,.box [.d (.map (Dq A) (Dr A))])]):=by
 (refine j2 func142 ntmps142 results142 fun w M E b0=>?_)
 (repeat' first|refine Ca 6 ?_;(refine jn6 (fun hin=>?_) (fun hin=>?_))|refine yyp ?_;try refine Ce ?_ ?_<;>intro hb|refine yy ?_|refine at_nil ?_;refine Cc [0,1,3,4,5,6] ?_|refine Cb fun K hK=>?_|apply_assumption -exfalso -symm)
 ·(refine j1 (j4 ⟨?_,rfl⟩))
  rw[Eb hin];rfl
 ·(refine j1 (j4 ⟨?_,rfl⟩))
  rw[Ee hin];rfl
theorem rp2 (gl:List (Nat × List D))(A l:List ByteArray):FnE prog gl 44 [.d (.list 1 (l.map .str)),.clo (.func 142) [] [.ptr 1002 0]] [(1002,.box [.d (.map (Dq A) (Dr A))])] (fun v H1=>∃ k:Int,(je4 A l=decide (0<=k))/\v=.d (.int .i64 k)/\H1=[(1002,.box [.d (.map (Dq A) (Dr A))])]):=by
 (refine j2 func44 ntmps44 results44 fun w M E b0=>?_)
 refine j8 0 rfl fun hsm=>?_;rw[Ab]at hsm
 (repeat' first|refine yyp ?_;try refine Ce ?_ ?_<;>intro hb|refine yy ?_|refine at_nil ?_;refine Cc Tt ?_|refine Cb fun K hK=>?_|apply_assumption -exfalso -symm)
 refine j6 [4,5,8,9,10,11,12,13,14,15,16,17,18] [] (fun j:Nat=>[(8,.d (.int .i64 j))]) (fun _=>[]) (fun j=>j<=l.length/\∀ s∈l.take j,s∉A) (fun j=>l.length - j) 0 ⟨Ai _,by simp⟩ fun j ⟨hj,hno⟩=>?_;dsimp only[Ac,Af];rcases Ah j l.length with hj2|hj2
 ·have c1:=qo4 gl A l[j];by_cases hin:l[j]∈A
  ·rw[Eb hin]at c1
   (repeat' first|refine Ca 16 ?_;refine Cg (hc:=c1) ?_;try refine Ce ?_ ?_<;>intro hb|refine yyp ?_;try refine Ce ?_ ?_<;>intro hb|refine yy ?_|refine at_nil ?_;refine Cc Tt ?_|refine Cb fun K hK=>?_|apply_assumption -exfalso -symm)
   refine j1 (j4 ⟨(j:Nat),?_,rfl,rfl⟩);have:je4 A l=true:=Em.2 ⟨l[j],Aw hj2,by simpa using hin⟩;rw[this];simp
  ·rw[Ee hin]at c1
   (repeat' first|refine Ca 16 ?_;refine Cg (hc:=c1) ?_;try refine Ce ?_ ?_<;>intro hb|refine yyp ?_;try refine Ce ?_ ?_<;>intro hb|refine yy ?_|refine at_nil ?_;refine Cc Tt ?_|refine Cb fun K hK=>?_|apply_assumption -exfalso -symm)
   refine⟨j+1,⟨by omega,fun s hs=>?_⟩,by omega,k8⟩;rw[Ao hj2,Ap,Bn]at hs;rcases hs with hs|rfl
   ·exact hno s hs
   ·exact hin
 ·rw[Am hj2]at hno
  (repeat' first|refine yyp ?_;try refine Ce ?_ ?_<;>intro hb|refine yy ?_|refine at_nil ?_;refine Cc Tt ?_|refine Cb fun K hK=>?_|apply_assumption -exfalso -symm)
  refine j1 (j4 ⟨-1,?_,rfl,rfl⟩);have:je4 A l=false:=List.any_eq_false.2 fun s hs=>by simpa using hno s hs
  rw[this];simp
theorem mv7 (gl:List (Nat × List D))(A l:List ByteArray):FnD prog gl 104 [.d (.map (Dq A) (Dr A)),.d (.list 1 (l.map .str))] (fun v=>v=.d (.bool (je4 A l))):=by
 have c1:=rp2 gl A l;have c2:FnE prog gl 141 [.d (.list 1 (l.map .str)),.clo (.func 142) [] [.ptr 1002 0]] [(1002,.box [.d (.map (Dq A) (Dr A))])] (fun v H1=>v=.d (.bool (je4 A l))/\H1=[(1002,.box [.d (.map (Dq A) (Dr A))])]):=by
  (refine j2 func141 ntmps141 results141 fun w M E b0=>?_)
  (repeat' first|refine Ca 7 ?_;(refine Gi (hc:=c1) ?_;rintro kk hkk)|refine yyp ?_|refine yy ?_|refine yy2 ?_ ?_<;>intro hcmp|refine at_nil ?_;refine Cc [0,1,4,5,6,7] ?_|refine Cb fun K hK=>?_|apply_assumption -exfalso -symm)
  all_goals
   (refine j1 (j4 ⟨?_,rfl⟩))
   rw[hkk]
   first
    |(rw[Eb (by assumption)];rfl)
    |(rw[Ee (by assumption)];rfl)
 (refine j7 func104 ntmps104 results104 fun w M=>?_)
 (repeat' first|refine Ca 2 ?_;(refine Cq 1002 ?_)|refine Ca 7 ?_;refine Cg (hc:=c2) ?_|refine yyp ?_|refine yy ?_|refine at_nil ?_;refine Cc [0,1,2,4,5,6,7] ?_|refine Cb fun K hK=>?_|apply_assumption -exfalso -symm)
 all_goals (refine j1 (k7 ?_))
 all_goals rfl
theorem rp3 (gl:List (Nat × List D))(ω:Wd)(hr:Rank ω.is)(p:Pr)(a:Pr)(l:List Pr)(hl:p.l=a::l)(ha:Sc.Ik a)(he:exN p.spec.e<=10000):FnE prog gl 63 [.ptr 900 0,.d (dPr p)] (HA ω) (fun v H1=>v=.d (.bool (Jj ω p.spec.kind p.spec.e a))/\H1=HA ω):=by
 have c1:=kz4 gl ω hr a ha;have c2:=kz7 gl ω hr [p.spec.e] (by simp only[Gj];omega);have c3:=kz7 gl ω hr p.spec.e.l (by have:=qu2 p.spec.e;omega);have cm:=fun A l=>mv7 gl A l;simp only[Aq,Ax,j9,congrFun k9 p.spec.e]at c1 c2;rw[j9];dsimp only[HA]at c1 c2 c3 ⊢;unfold Jj;by_cases h2:p.spec.kind=2
 ·rw[Ad h2]
  (refine j2 func63 ntmps63 results63 fun w M E b0=>?_)
  ((repeat' first|refine Ca 3 ?_;(refine Cq 3 ?_)|refine Ca 5 ?_;(refine j3 5 ?_)|refine Cf 4 ?_;refine halt ?_|refine yyp ?_;try refine Ce ?_ ?_<;>intro hb|refine yy ?_|refine at_nil ?_;refine Cc Sr ?_|refine Cb fun K hK=>?_|apply_assumption -exfalso -symm);all_goals try refine unhalt ?_)
  rw[j9,hl];simp only[Aq]
  (repeat' first|refine Ca 24 ?_;(refine Gi (hc:=c1) ?_;rintro⟨A,B⟩ ⟨hA,hB⟩)|refine Ca 34 ?_;(refine Dn 34 ?_)|refine Ca 35 ?_;refine Cg (hc:=c2) ?_|refine yyp ?_|refine yy ?_|refine Ch 104 ?_;refine Ck (hc:=(cm _ _)) ?_|refine at_nil ?_;refine Cc Sr ?_|refine Cb fun K hK=>?_|apply_assumption -exfalso -symm)
  (refine j1 (j4 ⟨?_,rfl⟩))
  exact congrArg (fun b=>V.d (D.bool (!b))) (jk3 hB _)
 rw[Ae h2];by_cases h3:p.spec.kind=3
 ·rw[Ad h3]
  (refine j2 func63 ntmps63 results63 fun w M E b0=>?_)
  ((repeat' first|refine Ca 3 ?_;(refine Cq 3 ?_)|refine Ca 5 ?_;(refine j3 5 ?_)|refine Cf 4 ?_;refine halt ?_|refine yyp ?_;try refine Ce ?_ ?_<;>intro hb|refine yy ?_|refine at_nil ?_;refine Cc Sr ?_|refine Cb fun K hK=>?_|apply_assumption -exfalso -symm);all_goals try refine unhalt ?_)
  rw[j9,hl];simp only[Aq]
  (repeat' first|refine Ca 24 ?_;(refine Gi (hc:=c1) ?_;rintro⟨A,B⟩ ⟨hA,hB⟩)|refine Ca 42 ?_;(refine jn6 (fun hin=>?_) (fun hin=>?_))|refine Ca 44 ?_;refine yyp ?_;try refine Ce ?_ ?_<;>intro hb|refine Ca 50 ?_;refine Cg (hc:=c3) ?_|refine yyp ?_|refine yy ?_|refine Ch 104 ?_;refine Ck (hc:=(cm _ _)) ?_|refine at_nil ?_;refine Cc Sr ?_|refine Cb fun K hK=>?_|apply_assumption -exfalso -symm)
  all_goals (refine j1 (j4 ⟨?_,rfl⟩))
  ·rw[Eb ((hA _).1 hin)];rfl
  ·rw[Ee fun h=>hin ((hA _).2 h)];exact congrArg (fun b=>V.d (D.bool (!b))) (jk3 hB _)
 ·rw[Ae h3]
  (refine j2 func63 ntmps63 results63 fun w M E b0=>?_)
  (repeat' first|refine Ca 3 ?_;(refine Cq 3 ?_)|refine Ca 5 ?_;(refine j3 5 ?_)|refine yyp ?_;try refine Ce ?_ ?_<;>intro hb|refine yy ?_|refine at_nil ?_;refine Cc Sr ?_|refine Cb fun K hK=>?_|apply_assumption -exfalso -symm)
  (refine j1 (j4 ⟨?_,rfl⟩))
  rfl
end Al
end
section
def Tv:List Nat:=[0,1,4,5,6,7,8,9,16]
namespace Al
noncomputable def qa6 (ω:Wd)(l:List Ex):Int:=match Jl ω [] l with
 |some k=>(k:Nat)
 |none=>-1
theorem qo5 {ω:Wd}:∀ {l:List Ex} {m:List ByteArray} {k:Nat},Jl ω m l=some k->k<l.length
 |[],m,k,h=>by simp[Jl]at h
 |e::l,m,k,h=>by
  simp only[Jl]at h;split at h
  ·cases h;simp
  ·obtain⟨i,hi,rfl⟩:=Fp.1 h;have:=qo5 hi;simp only[An];omega
theorem rb6 {ω:Wd}{l:List Ex}{m:List ByteArray}{j:Nat}(h:Jl ω [] l=(Jl ω m (l.drop j)).map (· +j))(hj:j<l.length):(Dw ω.is l[j].s∈m->Jl ω [] l=some j)/\(Dw ω.is l[j].s∉m->Jl ω [] l=(Jl ω (addN m (Dw ω.is l[j].s)) (l.drop (j+1))).map (· +(j+1))):=by
 rw[By hj]at h;simp only[Jl]at h;constructor
 ·intro hm;rw[Ad hm]at h;rw[h];simp
 ·intro hm;rw[Ae hm,Option.map_map]at h;rw[h];congr 1;funext x;simp only[Function.comp];omega
attribute [local irreducible] TR TC
theorem rp4 (gl:List (Nat × List D))(ω:Wd)(hr:Rank ω.is)(e:Ex)(m:List ByteArray):FnE prog gl 107 [.d (dEx e),.ptr 1002 0,.ptr 1005 0] ((1002,.box [.ptr 900 0])::(1005,.box [.map 907])::(907,.map (Dq m) (Dr m))::HA ω) (fun v H1=>v=.d (.bool (decide (Dw ω.is e.s∈m)))/\H1=(1002,.box [.ptr 900 0])::(1005,.box [.map 907])::(907,.map (Dq (addN m (Dw ω.is e.s))) (Dr (addN m (Dw ω.is e.s))))::HA ω):=by
 have cb:=ky6 gl ω e.s hr;have c2:=qn9 gl m [Dw ω.is e.s];rw[show Il m [Dw ω.is e.s]=addN m (Dw ω.is e.s) from rfl]at c2;simp only[Aq,Ax]at c2;rw[k9];dsimp only[HA]at cb ⊢
 (refine j2 func107 ntmps107 results107 fun w M E b0=>?_)
 (repeat' first|refine Ca 3 ?_;(refine Cq 3 ?_)|refine Ca 10 ?_;refine Cg (hc:=cb) ?_|refine Ca 13 ?_;(refine jz1 (fun hin=>?_) (fun hin=>?_))|refine Ca 16 ?_;(refine Dn 16 ?_)|refine Ca 17 ?_;refine Cg (hc:=c2) ?_|refine yyp ?_|refine yy ?_|refine at_nil ?_;refine Cc [0,1,2,3,4,5,6] ?_|refine Cb fun K hK=>?_|apply_assumption -exfalso -symm)
 all_goals (refine j1 (j4 ⟨?_,rfl⟩))
 ·rw[Eb hin];rfl
 ·rw[Ee hin];rfl
theorem rp5 (gl:List (Nat × List D))(ω:Wd)(hr:Rank ω.is)(l:List Ex):FnE prog gl 106 [.d (.list 6 (l.map dEx)),.clo (.func 107) [] [.ptr 1002 0,.ptr 1005 0]] ((1002,.box [.ptr 900 0])::(1005,.box [.map 907])::(907,.map (Dq []) (Dr []))::HA ω) (fun v H1=>∃ m:List ByteArray,True/\v=.d (.int .i64 (qa6 ω l))/\H1=(1002,.box [.ptr 900 0])::(1005,.box [.map 907])::(907,.map (Dq m) (Dr m))::HA ω):=by
 rw[k9];have ct:=fun e m=>rp4 gl ω hr e m;simp only[k9]at ct;dsimp only[HA]at ct ⊢
 (refine j2 func106 ntmps106 results106 fun w M E b0=>?_)
 refine j8 0 rfl fun hsm=>?_;rw[Ab]at hsm
 (repeat' first|refine yyp ?_;try refine Ce ?_ ?_<;>intro hb|refine yy ?_|refine at_nil ?_;refine Cc Tv ?_|refine Cb fun K hK=>?_|apply_assumption -exfalso -symm)
 refine j6 [4,5,8,9,10,11,12,13,14,15,16,17,18] [907] (fun x:Nat × List ByteArray=>[(8,.d (.int .i64 x.1))]) (fun x=>[(907,.map (Dq x.2) (Dr x.2))]) (fun x=>x.1<=l.length/\Jl ω [] l=(Jl ω x.2 (l.drop x.1)).map (· +x.1)) (fun x=>l.length - x.1) (0,[]) ⟨Ai _,by simp⟩ fun⟨j,m⟩ ⟨hj,hm⟩=>?_;dsimp only[Ac,Af]at hj hm ⊢;rcases Ah j l.length with hj2|hj2
 ·have c1:=ct l[j] m;have hst:=rb6 hm hj2;by_cases hin:Dw ω.is l[j].s∈m
  ·rw[Eb hin]at c1
   (repeat' first|refine Ca 16 ?_;refine Cg (hc:=c1) ?_;try refine Ce ?_ ?_<;>intro hb|refine yyp ?_;try refine Ce ?_ ?_<;>intro hb|refine yy ?_|refine at_nil ?_;refine Cc Tv ?_|refine Cb fun K hK=>?_|apply_assumption -exfalso -symm)
   refine j1 (j4 ⟨_,trivial,?_,rfl⟩);unfold qa6;rw[hst.1 hin];rfl
  ·rw[Ee hin]at c1
   (repeat' first|refine Ca 16 ?_;refine Cg (hc:=c1) ?_;try refine Ce ?_ ?_<;>intro hb|refine yyp ?_;try refine Ce ?_ ?_<;>intro hb|refine yy ?_|refine at_nil ?_;refine Cc Tv ?_|refine Cb fun K hK=>?_|apply_assumption -exfalso -symm)
   exact⟨(j+1,_),⟨by dsimp only;omega,hst.2 hin⟩,by dsimp only;omega,k8⟩
 ·rw[Bz hj2]at hm
  (repeat' first|refine yyp ?_;try refine Ce ?_ ?_<;>intro hb|refine yy ?_|refine at_nil ?_;refine Cc Tv ?_|refine Cb fun K hK=>?_|apply_assumption -exfalso -symm)
  refine j1 (j4 ⟨_,trivial,?_,rfl⟩);unfold qa6;rw[hm];rfl
theorem qo6 (gl:List (Nat × List D))(ω:Wd)(hr:Rank ω.is)(l:List Ex):FnE prog gl 65 [.ptr 900 0,.d (.list 6 (l.map dEx))] (HA ω) (fun v H1=>v=.d (.int .i64 (qa6 ω l))/\H1=HA ω):=by
 have c1:=rp5 gl ω hr l;dsimp only[HA,Dq,Dr,Ax]at c1 ⊢
 (refine j2 func65 ntmps65 results65 fun w M E b0=>?_)
 (repeat' first|refine Ca 2 ?_;(refine Cq 1002 ?_)|refine Ca 6 ?_;(refine Iz 907 ?_)|refine Ca 5 ?_;(refine j3 1005 ?_)|refine Ca 9 ?_;(refine Gi (hc:=c1) ?_;rintro m _)|refine yyp ?_;try refine Ce ?_ ?_<;>intro hb|refine yy ?_|refine at_nil ?_;refine Cc [0,1,2,4,5,6,7] ?_|refine Cb fun K hK=>?_|apply_assumption -exfalso -symm)
 (refine j1 (j4 ⟨?_,rfl⟩))
 rfl
end Al
end
section
def Kc:List Nat:=[0,1,3,5,7,8,9,11,13,25,37,38,39,40,55,71,72,73,74,84,111,112,113,114,125,126,127,128]
def jh8:Plan:=lin [0,4,8,16,20,13,25,30,34]
def jh9:Plan:=lin [0,4,8,16,13,21,26,30]
def jf7:Plan:=lin [0,4,8,16,20,36,40,44,13,25,28,33,49,55]
def jf8:Plan:=lin [0,4,8,16,20,36,40,48,52,13,25,28,33,45,56,63]
def ji0:Plan:=lin [0,4,8,16,20,13,25,30]
namespace Al
open Lx Sc
theorem kh6 {r:ByteArray->Nat}{q:Pr}:∀ {l:List Pr},rb3 r l->q∈l->isR r q
 |x::l,h,hq=>by
  rcases Bc.1 hq with rfl|hq
  ·exact h.1
  ·exact kh6 h.2 hq
theorem mv8 {r:ByteArray->Nat}{q:Pr}:∀ {l:List Gu},rh0 r l->q∈l.flatMap (·.body)->isR r q
 |.mk _ _ _ _ _ _ _ body::l,h,hq=>by
  simp only[rh0]at h;simp only[En,Gu.body,Ap]at hq;rcases hq with hq|hq
  ·exact kh6 h.1 hq
  ·exact mv8 h.2 hq
theorem jz6 {r:ByteArray->Nat}{p q:Pr}(h:isR r p)(hq:q∈partsOf p):isR r q:=by
 obtain⟨kind,name,chan,targets,exprs,rep,guards,l,procs,⟨sk,st,sn,se,spp,sf,sb⟩⟩:=p;simp only[isR]at h;simp only[partsOf,Ap,Pr.spec,Sp.body,Pr.guards,Pr.l]at hq;rcases hq with (hq|hq)|hq
 ·exact kh6 h.2.1 hq
 ·exact mv8 h.2.2.1 hq
 ·exact kh6 h.2.2.2 hq
theorem ry5 {r:ByteArray->Nat}{p:Pr}(h:isR r p)(hk:p.spec.kind=3):∀ x∈p.spec.names.head?,r p.spec.e.s<r x:=by
 obtain⟨kind,name,chan,targets,exprs,rep,guards,l,procs,⟨sk,st,sn,se,spp,sf,sb⟩⟩:=p;simp only[isR]at h;exact h.1 hk
theorem kh7 {r:ByteArray->Nat}{w v:Wd}{q:Pr}(h:Sim w (x7 v q))(hv:Kq r v)(hq:isR r q):Kq r w:=fun x hx=>by
 rw[h.is]at hx;exact ks5 q hv hq x hx
structure SpOk (p:Pr):Prop where
 names:p.spec.kind=3\/p.spec.kind=5->∃ s l,p.spec.names=s::l
 body:p.spec.kind=5->∃ b,p.spec.body=[b]
 gus:∀ g∈p.guards,∃ b,g.body=[b]
theorem rp6 {p:Pr}(h:Gq p=true):SpOk p:=by
 have f:=jd5 h;refine⟨fun hk=>?_,fun hk=>?_,fun g hg=>?_⟩
 ·by_cases h18:p.kind=18
  ·have:=(jz3 (f.spec h18).2).names;cases hn:p.spec.names with
   |nil=>exact absurd hn this
   |cons s l=>exact⟨s,l,rfl⟩
  ·rw[f.none h18]at hk;simp[sp0,Sp.kind]at hk
 ·by_cases h18:p.kind=18
  ·have:=(jz3 (f.spec h18).2).body hk
   match hb:p.spec.body,this with
   |[b],_=>exact⟨b,rfl⟩
  ·rw[f.none h18]at hk;simp[sp0,Sp.kind]at hk
 ·have:=(kh2 (f.gus g hg)).body
  match hb:g.body,this with
  |[b],_=>exact⟨b,rfl⟩
attribute [local irreducible] TR TC
theorem qo7 (gl:List (Nat × List D)){r:ByteArray->Nat}(ω:Wd)(hω:Kq r ω)(p:Pr)(hr:isR r p)(ha:Ik p)
 (hrec:∀ q∈partsOf p,∀ ω:Wd,Kq r ω->FnE prog gl 41 [.ptr 900 0,.d (dPr q)] (HA ω) (fun v H1=>∃ ω',Sim ω' (x7 ω q)/\v=.tup []/\H1=HA ω')):
 FnE prog gl 41 [.ptr 900 0,.d (dPr p)] (HA ω) (fun v H1=>∃ ω',Sim ω' (x7 ω p)/\v=.tup []/\H1=HA ω'):=by
 have ok:=rp6 (jn7 ha);have hb1:∀ q∈p.spec.body,q∈partsOf p:=fun q hq=>by simp only[partsOf,Ap];exact .inl (.inl hq)
 have hb2:∀ g∈p.guards,∀ q∈g.body,q∈partsOf p:=fun g hg q hq=>by simp only[partsOf,Ap,List.mem_flatMap];exact .inl (.inr ⟨g,hg,hq⟩)
 have hb3:∀ q∈p.l,q∈partsOf p:=fun q hq=>by simp only[partsOf,Ap];exact .inr hq
 have hsets:=fun(ω2:Wd) (h2:Kq r ω2) (b:Pr) (hb:b∈partsOf p)=>kz4 gl ω2 h2.rank b (jk2 ha hb);simp only[j9]at hrec hsets;rw[kd5,j9];obtain⟨W1,hW1⟩:∃ W1,W1=Kt ω p.rep.name p.spec.kind p.spec.names p.spec.e.s p.spec.formals:=⟨_,rfl⟩;have hR1:Kq r W1:=by rw[hW1];exact kn1 hω _ _ _ _ _ (ry5 hr)
 rw[<-hW1];obtain⟨K0,hK0⟩:∃ K0,K0=Il ω.known p.spec.names:=⟨_,rfl⟩;obtain⟨K1,hK1⟩:∃ K1,K1=if p.rep.name=ByteArray.empty then K0 else addN K0 p.rep.name:=⟨_,rfl⟩;obtain⟨K2,hK2⟩:∃ K2,K2=Il K1 (p.spec.formals.map (·.name)):=⟨_,rfl⟩;have c1:=kn3 gl ω.known p.spec.names;have c2:=kn3 gl K0 [p.rep.name];rw[<-hK0]at c1;simp only[Aq,Ax]at c2;dsimp only[HA,Ac,Af]at hrec hsets ⊢
 (refine j2 func41 ntmps41 results41 fun w M E b0=>?_)
 ((repeat' first|refine Ca 3 ?_;(refine Cq 3 ?_)|refine Ca 21 ?_;refine Cg (hc:=c1) ?_|refine kf3 2 ?_;refine halt ?_|refine yyp ?_;try refine Ce ?_ ?_<;>intro hb|refine yy ?_|refine at_nil ?_;refine Cc Kc ?_|refine Cb fun K hK=>?_|refine Cf 1 ?_;refine j0 [7] (lin [0,4,8,16,20,13,25,31]) ?_|refine Cf 3 ?_;refine j0 [] jh8 ?_|refine Cf 7 ?_;refine j0 [] jh9 ?_|refine Cf 10 ?_;refine j0 [13] jf7 ?_|refine Cf 18 ?_;refine j0 [15] jf8 ?_|apply_assumption -exfalso -symm);all_goals try refine unhalt ?_)
 refine jq9 [] [901] (fun _:List ByteArray=>[]) (fun K=>[(901,.map (Dq K) (Dr K))]) (fun K=>K=K1) ?_ ?_
 ·rw[hK1]
  (repeat' first|refine Ca 33 ?_;(refine Dn 33 ?_)|refine Ca 34 ?_;refine Cg (hc:=c2) ?_|refine yyp ?_;try refine Ce ?_ ?_<;>intro hb|refine yy ?_|refine yy2 ?_ ?_<;>intro hcmp|refine at_nil ?_;refine Cc Kc ?_|refine Cb fun K hK=>?_|refine Cf 1 ?_;refine j0 [] ji0 ?_|refine Cf 3 ?_;refine j0 [8] (lin [0,4,8,16,20,13,25,30,35]) ?_|refine Cf 7 ?_;refine j0 [] jh9 ?_|refine Cf 10 ?_;refine j0 [13] jf7 ?_|refine Cf 18 ?_;refine j0 [15] jf8 ?_|apply_assumption -exfalso -symm)
  all_goals first
   |(refine⟨Il K0 [p.rep.name],?_,k8⟩;rw[Ae (by assumption)];rfl)
   |(refine⟨K0,?_,k8⟩;rw[Ad (by first|assumption|grind)])
 intro Kx hKx;rw[hKx];clear hKx Kx;dsimp only[Ac,Af]
 (repeat' first|refine yyp ?_;try refine Ce ?_ ?_<;>intro hb|refine yy ?_|refine at_nil ?_;refine Cc Kc ?_|refine Cb fun K hK=>?_|refine Cf 1 ?_;refine j0 [] ji0 ?_|refine Cf 3 ?_;refine j0 [] jh8 ?_|refine Cf 7 ?_;refine j0 [] jh9 ?_|refine Cf 10 ?_;refine j0 [13] jf7 ?_|refine Cf 18 ?_;refine j0 [15] jf8 ?_|apply_assumption -exfalso -symm)
 refine j8 37 rfl fun hsm=>?_;simp only[Ab]at hsm;refine j6 [5,39,40,41,42,43,44,45,46,47,48,49,50,51] [901] (fun j:Nat=>[(39,.d (.int .i64 j))]) (fun j=>[(901,.map (Dq (Il K1 ((p.spec.formals.take j).map (·.name)))) (Dr (Il K1 ((p.spec.formals.take j).map (·.name)))))]) (fun j=>j<=p.spec.formals.length) (fun j=>p.spec.formals.length - j) 0 (Ai _) fun j hj=>?_;dsimp only[Ac,Af];rcases Ah j p.spec.formals.length with hj2|hj2
 ·have c3:=kn3 gl (Il K1 ((p.spec.formals.take j).map (·.name))) [p.spec.formals[j].name];rw[kz2,show((p.spec.formals.take j).map (·.name))++[p.spec.formals[j].name]=(p.spec.formals.take (j+1)).map (·.name) by rw[Ao hj2,As];rfl]at c3;simp only[Aq,Ax]at c3
  (repeat' first|refine Ca 5 ?_;(refine j3 5 ?_)|refine Ca 49 ?_;(refine Dn 49 ?_)|refine Ca 50 ?_;refine Cg (hc:=c3) ?_|refine yyp ?_;try refine Ce ?_ ?_<;>intro hb|refine yy ?_|refine at_nil ?_;refine Cc Kc ?_|refine Cb fun K hK=>?_|refine Cf 1 ?_;refine j0 [] ji0 ?_|refine Cf 3 ?_;refine j0 [] jh8 ?_|refine Cf 7 ?_;refine j0 [7] (lin [0,4,8,16,13,21,26,31]) ?_|refine Cf 10 ?_;refine j0 [13] jf7 ?_|refine Cf 18 ?_;refine j0 [15] jf8 ?_|apply_assumption -exfalso -symm)
  exact⟨j+1,by omega,by omega,k8⟩
 obtain rfl:j=p.spec.formals.length:=by omega
 rw[Bg,<-hK2]
 ((repeat' first|refine kf3 9 ?_;refine halt ?_|refine yyp ?_;try refine Ce ?_ ?_<;>intro hb|refine yy ?_|refine at_nil ?_;refine Cc Kc ?_|refine Cb fun K hK=>?_|refine Cf 1 ?_;refine j0 [] ji0 ?_|refine Cf 3 ?_;refine j0 [] jh8 ?_|refine Cf 7 ?_;refine j0 [] jh9 ?_|refine Cf 10 ?_;refine j0 [13] jf7 ?_|refine Cf 18 ?_;refine j0 [15] jf8 ?_|apply_assumption -exfalso -symm);all_goals try refine unhalt ?_)
 refine jq9 [] [902] (fun _:List (ByteArray × ByteArray)=>[]) (fun l=>[(902,.map (Md l) (Mw .str l))]) (fun l=>(⟨K2,l,ω.procs⟩:Wd)=W1) ?_ ?_
 ·rw[hW1];unfold Kt;dsimp only;rw[<-hK0,<-hK1,<-hK2];by_cases h3:p.spec.kind=3
  ·obtain⟨s0,ns,hn⟩:=ok.names (.inl h3);rw[Ad h3,hn]
   (repeat' first|refine jg0 13 ?_;(refine mu8 (f:=.str) (a:=p.spec.e.s) ?_)|refine yyp ?_;try refine Ce ?_ ?_<;>intro hb|refine yy ?_|refine at_nil ?_;refine Cc Kc ?_|refine Cb fun K hK=>?_|refine Cf 1 ?_;refine j0 [] ji0 ?_|refine Cf 3 ?_;refine j0 [] jh8 ?_|refine Cf 7 ?_;refine j0 [] jh9 ?_|refine Cf 10 ?_;refine j0 [13] jf7 ?_|refine Cf 18 ?_;refine j0 [15] jf8 ?_|apply_assumption -exfalso -symm)
   exact⟨up1 s0 p.spec.e.s ω.is,rfl,k8⟩
  ·rw[Ae h3]
   (repeat' first|refine yyp ?_;try refine Ce ?_ ?_<;>intro hb|refine yy ?_|refine at_nil ?_;refine Cc Kc ?_|refine Cb fun K hK=>?_|refine Cf 1 ?_;refine j0 [] ji0 ?_|refine Cf 3 ?_;refine j0 [] jh8 ?_|refine Cf 7 ?_;refine j0 [] jh9 ?_|refine Cf 10 ?_;refine j0 [13] jf7 ?_|refine Cf 18 ?_;refine j0 [15] jf8 ?_|apply_assumption -exfalso -symm)
   exact⟨ω.is,rfl,k8⟩
 rintro is2 hW;dsimp only[Ac,Af]
 (repeat' first|refine yyp ?_;try refine Ce ?_ ?_<;>intro hb|refine yy ?_|refine at_nil ?_;refine Cc Kc ?_|refine Cb fun K hK=>?_|refine Cf 1 ?_;refine j0 [] ji0 ?_|refine Cf 3 ?_;refine j0 [] jh8 ?_|refine Cf 7 ?_;refine j0 [] jh9 ?_|refine Cf 10 ?_;refine j0 [13] jf7 ?_|refine Cf 18 ?_;refine j0 [15] jf8 ?_|apply_assumption -exfalso -symm)
 rw[j9];refine j8 71 rfl fun hsm2=>?_;simp only[Ab]at hsm2;refine j6 [7,73,74,75,76,77,78,79,80] [901,902,903] (fun x:Nat × Wd=>[(73,.d (.int .i64 x.1))]) (fun x=>[(901,.map (Dq x.2.known) (Dr x.2.known)),(902,.map (Md x.2.is) (Mw .str x.2.is)),(903,.map (Md x.2.procs) (Mw dPc x.2.procs))]) (fun x=>x.1<=p.spec.body.length/\Sim x.2 (Gb W1 (p.spec.body.take x.1))/\Kq r x.2) (fun x=>p.spec.body.length - x.1) (0,⟨K2,is2,ω.procs⟩) ⟨Ai _,by rw[hW];exact Sim.refl _,by rw[hW];exact hR1⟩ fun⟨j,ω2⟩ ⟨hj,hS,hR⟩=>?_;dsimp only[Ac,Af]at hj hS hR ⊢;rcases Ah j p.spec.body.length with hj2|hj2
 ·have hq:=hb1 _ (Aw hj2);have hone:=hrec p.spec.body[j] hq ω2 hR
  (repeat' first|refine Ca 7 ?_;(refine j3 7 ?_)|refine Ca 79 ?_;(refine Gi (hc:=hone) ?_;rintro ω3 hS3)|refine yyp ?_;try refine Ce ?_ ?_<;>intro hb|refine yy ?_|refine at_nil ?_;refine Cc Kc ?_|refine Cb fun K hK=>?_|refine Cf 1 ?_;refine j0 [] ji0 ?_|refine Cf 3 ?_;refine j0 [] jh8 ?_|refine Cf 7 ?_;refine j0 [] jh9 ?_|refine Cf 10 ?_;refine j0 [13] jf7 ?_|refine Cf 18 ?_;refine j0 [15] jf8 ?_|apply_assumption -exfalso -symm)
  refine⟨(j+1,ω3),⟨by dsimp only;omega,?_,kh7 hS3 hR (jz6 hr hq)⟩,by dsimp only;omega,k8⟩;dsimp only;rw[jz5 _ _ _ hj2];exact hS3.trans (jz4 _ hS)
 rw[Am hj2]at hS
 ((repeat' first|refine kf3 16 ?_;refine halt ?_|refine yyp ?_;try refine Ce ?_ ?_<;>intro hb|refine yy ?_|refine at_nil ?_;refine Cc Kc ?_|refine Cb fun K hK=>?_|refine Cf 1 ?_;refine j0 [] ji0 ?_|refine Cf 3 ?_;refine j0 [] jh8 ?_|refine Cf 7 ?_;refine j0 [] jh9 ?_|refine Cf 10 ?_;refine j0 [13] jf7 ?_|refine Cf 18 ?_;refine j0 [15] jf8 ?_|apply_assumption -exfalso -symm);all_goals try refine unhalt ?_)
 obtain⟨W2,hW2⟩:∃ W2,W2=Gb W1 p.spec.body:=⟨_,rfl⟩;rw[<-hW2]at hS ⊢;obtain⟨W3,hW3⟩:∃ W3,W3=Kb W2 p.spec.kind p.spec.names p.spec.formals (vb7 W2 p.spec.body) (wrB W2 p.spec.body):=⟨_,rfl⟩;rw[<-hW3];refine jq9 [] [903] (fun _:List (ByteArray × Pc)=>[]) (fun l=>[(903,.map (Md l) (Mw dPc l))]) (fun l=>Sim ⟨ω2.known,ω2.is,l⟩ W3) ?_ ?_
 ·rw[hW3];by_cases h5:p.spec.kind=5
  ·obtain⟨s0,ns,hn⟩:=ok.names (.inr h5);obtain⟨b,hb⟩:=ok.body h5;have c5:=hsets ω2 hR b (hb1 b (by rw[hb];exact Az));rw[hn,hb];simp only[Aq,Ax]
   (repeat' first|refine Ca 92 ?_;(refine Gi (hc:=c5) ?_;rintro⟨A,B⟩ ⟨hA,hB⟩)|refine jg0 15 ?_;(refine mu8 (f:=dPc) (a:=⟨p.spec.formals,A,B⟩) ?_)|refine yyp ?_;try refine Ce ?_ ?_<;>intro hb|refine yy ?_|refine at_nil ?_;refine Cc Kc ?_|refine Cb fun K hK=>?_|refine Cf 1 ?_;refine j0 [] ji0 ?_|refine Cf 3 ?_;refine j0 [] jh8 ?_|refine Cf 7 ?_;refine j0 [] jh9 ?_|refine Cf 10 ?_;refine j0 [13] jf7 ?_|refine Cf 18 ?_;refine j0 [15] jf8 ?_|apply_assumption -exfalso -symm)
   refine⟨up1 s0 ⟨p.spec.formals,A,B⟩ ω2.procs,?_,k8⟩;have:=hS.Kb p.spec.kind (s0::ns) p.spec.formals (occ:=A) (wr:=B) (occ':=vb7 W2 [b]) (wr':=wrB W2 [b]) (fun s=>(hA s).trans (hS.occ b s)) (fun s=>(hB s).trans (hS.wr b s));have e:Kb ω2 p.spec.kind (s0::ns) p.spec.formals A B=⟨ω2.known,ω2.is,up1 s0 ⟨p.spec.formals,A,B⟩ ω2.procs⟩:=by unfold Kb;rw[Ad h5]
   rw[e]at this;exact this
  ·(repeat' first|refine yyp ?_;try refine Ce ?_ ?_<;>intro hb|refine yy ?_|refine at_nil ?_;refine Cc Kc ?_|refine Cb fun K hK=>?_|refine Cf 1 ?_;refine j0 [] ji0 ?_|refine Cf 3 ?_;refine j0 [] jh8 ?_|refine Cf 7 ?_;refine j0 [] jh9 ?_|refine Cf 10 ?_;refine j0 [13] jf7 ?_|refine Cf 18 ?_;refine j0 [15] jf8 ?_|apply_assumption -exfalso -symm)
   refine⟨ω2.procs,?_,k8⟩;have e:Kb W2 p.spec.kind p.spec.names p.spec.formals (vb7 W2 p.spec.body) (wrB W2 p.spec.body)=W2:=by unfold Kb;rw[Ae h5]
   rw[e];exact hS
 rintro ps2 hS2;dsimp only[Ac,Af]
 (repeat' first|refine yyp ?_;try refine Ce ?_ ?_<;>intro hb|refine yy ?_|refine at_nil ?_;refine Cc Kc ?_|refine Cb fun K hK=>?_|refine Cf 1 ?_;refine j0 [] ji0 ?_|refine Cf 3 ?_;refine j0 [] jh8 ?_|refine Cf 7 ?_;refine j0 [] jh9 ?_|refine Cf 10 ?_;refine j0 [13] jf7 ?_|refine Cf 18 ?_;refine j0 [15] jf8 ?_|apply_assumption -exfalso -symm)
 rw[jd7];refine j8 111 rfl fun hsm3=>?_;simp only[Ab]at hsm3;refine j6 [11,113,114,115,116,117,118,119,120,121,122,123] [901,902,903] (fun x:Nat × Wd=>[(113,.d (.int .i64 x.1))]) (fun x=>[(901,.map (Dq x.2.known) (Dr x.2.known)),(902,.map (Md x.2.is) (Mw .str x.2.is)),(903,.map (Md x.2.procs) (Mw dPc x.2.procs))]) (fun x=>x.1<=p.guards.length/\Sim x.2 (Gz W3 (p.guards.take x.1))/\Kq r x.2) (fun x=>p.guards.length - x.1) (0,⟨ω2.known,ω2.is,ps2⟩) ⟨Ai _,hS2,hR⟩ fun⟨j,ω4⟩ ⟨hj,hS4,hR4⟩=>?_;dsimp only[Ac,Af]at hj hS4 hR4 ⊢;rcases Ah j p.guards.length with hj2|hj2
 ·obtain⟨b,hb⟩:=ok.gus _ (Aw hj2);have hq:=hb2 _ (Aw hj2) b (by rw[hb];exact Az);have hone:=hrec b hq ω4 hR4
  ((repeat' first|refine Ca 11 ?_;(refine j3 11 ?_)|refine Cf 22 ?_;refine halt ?_|refine yyp ?_;try refine Ce ?_ ?_<;>intro hb|refine yy ?_|refine at_nil ?_;refine Cc Kc ?_|refine Cb fun K hK=>?_|refine Cf 1 ?_;refine j0 [] ji0 ?_|refine Cf 3 ?_;refine j0 [] jh8 ?_|refine Cf 7 ?_;refine j0 [] jh9 ?_|refine Cf 10 ?_;refine j0 [13] jf7 ?_|refine Cf 18 ?_;refine j0 [15] jf8 ?_|apply_assumption -exfalso -symm);all_goals try refine unhalt ?_)
  rw[j9,hb];simp only[Aq,Ax]
  (repeat' first|refine Ca 122 ?_;(refine Gi (hc:=hone) ?_;rintro ω5 hS5)|refine yyp ?_;try refine Ce ?_ ?_<;>intro hb|refine yy ?_|refine at_nil ?_;refine Cc Kc ?_|refine Cb fun K hK=>?_|refine Cf 1 ?_;refine j0 [] ji0 ?_|refine Cf 3 ?_;refine j0 [] jh8 ?_|refine Cf 7 ?_;refine j0 [] jh9 ?_|refine Cf 10 ?_;refine j0 [13] jf7 ?_|refine Cf 18 ?_;refine j0 [15] jf8 ?_|apply_assumption -exfalso -symm)
  refine⟨(j+1,ω5),⟨by dsimp only;omega,?_,kh7 hS5 hR4 (jz6 hr hq)⟩,by dsimp only;omega,k8⟩;dsimp only;rw[kz5 _ _ _ hj2 hb];exact hS5.trans (jz4 _ hS4)
 rw[Am hj2]at hS4
 (repeat' first|refine yyp ?_;try refine Ce ?_ ?_<;>intro hb|refine yy ?_|refine at_nil ?_;refine Cc Kc ?_|refine Cb fun K hK=>?_|refine Cf 1 ?_;refine j0 [] ji0 ?_|refine Cf 3 ?_;refine j0 [] jh8 ?_|refine Cf 7 ?_;refine j0 [] jh9 ?_|refine Cf 10 ?_;refine j0 [13] jf7 ?_|refine Cf 18 ?_;refine j0 [15] jf8 ?_|apply_assumption -exfalso -symm)
 refine j8 125 rfl fun hsm4=>?_;simp only[Ab]at hsm4;refine j6 [13,127,128,129,130,131,132,133,134] [901,902,903] (fun x:Nat × Wd=>[(127,.d (.int .i64 x.1))]) (fun x=>[(901,.map (Dq x.2.known) (Dr x.2.known)),(902,.map (Md x.2.is) (Mw .str x.2.is)),(903,.map (Md x.2.procs) (Mw dPc x.2.procs))]) (fun x=>x.1<=p.l.length/\Sim x.2 (Gb (Gz W3 p.guards) (p.l.take x.1))/\Kq r x.2) (fun x=>p.l.length - x.1) (0,ω4) ⟨Ai _,hS4,hR4⟩ fun⟨j,ω6⟩ ⟨hj,hS6,hR6⟩=>?_;dsimp only[Ac,Af]at hj hS6 hR6 ⊢;rcases Ah j p.l.length with hj2|hj2
 ·have hq:=hb3 _ (Aw hj2);have hone:=hrec p.l[j] hq ω6 hR6
  (repeat' first|refine Ca 13 ?_;(refine j3 13 ?_)|refine Ca 133 ?_;(refine Gi (hc:=hone) ?_;rintro ω7 hS7)|refine yyp ?_;try refine Ce ?_ ?_<;>intro hb|refine yy ?_|refine at_nil ?_;refine Cc Kc ?_|refine Cb fun K hK=>?_|refine Cf 1 ?_;refine j0 [] ji0 ?_|refine Cf 3 ?_;refine j0 [] jh8 ?_|refine Cf 7 ?_;refine j0 [] jh9 ?_|refine Cf 10 ?_;refine j0 [13] jf7 ?_|refine Cf 18 ?_;refine j0 [15] jf8 ?_|apply_assumption -exfalso -symm)
  refine⟨(j+1,ω7),⟨by dsimp only;omega,?_,kh7 hS7 hR6 (jz6 hr hq)⟩,by dsimp only;omega,k8⟩;dsimp only;rw[jz5 _ _ _ hj2];exact hS7.trans (jz4 _ hS6)
 rw[Am hj2]at hS6
 (repeat' first|refine yyp ?_;try refine Ce ?_ ?_<;>intro hb|refine yy ?_|refine at_nil ?_;refine Cc Kc ?_|refine Cb fun K hK=>?_|refine Cf 1 ?_;refine j0 [] ji0 ?_|refine Cf 3 ?_;refine j0 [] jh8 ?_|refine Cf 7 ?_;refine j0 [] jh9 ?_|refine Cf 10 ?_;refine j0 [13] jf7 ?_|refine Cf 18 ?_;refine j0 [15] jf8 ?_|apply_assumption -exfalso -symm)
 exact g8 ⟨ω6,hS6,rfl,rfl⟩
theorem qo8 (gl:List (Nat × List D)){r:ByteArray->Nat}:∀ (n:Nat) (p:Pr),SizeOf.sizeOf p<=n->isR r p->Ik p->∀ ω:Wd,Kq r ω->FnE prog gl 41 [.ptr 900 0,.d (dPr p)] (HA ω) (fun v H1=>∃ ω',Sim ω' (x7 ω p)/\v=.tup []/\H1=HA ω'):=by
 intro n
 induction n with
 |zero=>intro p h;cases p;simp only[Pr.mk.sizeOf_spec]at h;omega
 |succ n ih=>
  intro p hp hr ha ω hω;refine qo7 gl ω hω p hr ha fun q hq ω2 h2=>ih q ?_ (jz6 hr hq) (jk2 ha hq) ω2 h2;have:=ja9 hq;omega
end Al
end
end Go.Proofs.YtklklgfpkpglgaaGreatDoor
