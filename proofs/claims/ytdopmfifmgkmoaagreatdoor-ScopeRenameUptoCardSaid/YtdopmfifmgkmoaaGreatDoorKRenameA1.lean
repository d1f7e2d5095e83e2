/- Parts: L7, L6, S13. -/
import Derived.Test.YtdopmfifmgkmoaaGreatDoorP42
import Derived.Test.YtdopmfifmgkmoaaGreatDoorP41
set_option linter.all false
set_option maxRecDepth 100000
set_option maxHeartbeats 16000000
namespace Go.Proofs.YtdopmfifmgkmoaaGreatDoor
open Go.RowKit Go.Proofs.Tryz
section
def Pz:List Nat:=[0,1,2,3,4,5,6,7,8,12,29,47,63,74,93]
theorem ju2 (l:List Pr)(j:Nat)(hj:j<l.length):Sc.Dr (l.take (j+1))=Sc.Dr (l.take j)++Sc.Hl l[j]:=by
 induction l generalizing j with
 |nil=>simp at hj
 |cons x l ih=>
  cases j with
  |zero=>simp[Sc.Dr]
  |succ j=>
   have:=ih j (by simpa using hj);simp only[Eg,Sc.Dr,Bz,this,Bb]
theorem kv8 (l:List Gu)(j:Nat)(hj:j<l.length):Sc.Gf (l.take (j+1))=Sc.Gf (l.take j)++Sc.Dr l[j].body:=by
 induction l generalizing j with
 |nil=>simp at hj
 |cons x l ih=>
  obtain⟨_,_,_,_,_,_,_,body⟩:=x;cases j with
  |zero=>simp[Sc.Gf,Sc.Qn,Gu.body]
  |succ j=>
   have:=ih j (by simpa using hj);simp only[Eg,Sc.Gf,Bz,this,Bb]
theorem kv9 (p:Pr):Sc.Hl p=(if p.rep.name=ByteArray.empty then [] else [p.rep.name])++(p.spec.names++(p.spec.formals.map (·.name)++(Sc.Dr p.spec.body++(Sc.Gf p.guards++Sc.Dr p.l)))):=by
 obtain⟨_,_,_,_,_,_,_,_,_,⟨⟩⟩:=p;rw[Sc.Hl];rfl
theorem kq0 (l:List Pr)(j:Nat)(hj:j<l.length):(Sc.Dr (l.take j)).length+(Sc.Hl l[j]).length<=(Sc.Dr l).length:=by
 have h1:Sc.Dr l=Sc.Dr (l.take (j+1))++Sc.Dr (l.drop (j+1)):=by
  have:∀ a b:List Pr,Sc.Dr (a++b)=Sc.Dr a++Sc.Dr b:=fun a b=>by
   induction a with
   |nil=>simp[Sc.Dr]
   |cons x a ih=>simp only[Ac,Sc.Dr,ih,Bb]
  rw[<-this,Ev]
 rw[h1,ju2 l j hj];simp only[Ag];omega
theorem ql3 (l:List Gu)(j:Nat)(hj:j<l.length):(Sc.Gf (l.take j)).length+(Sc.Dr l[j].body).length<=(Sc.Gf l).length:=by
 have h1:Sc.Gf l=Sc.Gf (l.take (j+1))++Sc.Gf (l.drop (j+1)):=by
  have:∀ a b:List Gu,Sc.Gf (a++b)=Sc.Gf a++Sc.Gf b:=fun a b=>by
   induction a with
   |nil=>simp[Sc.Gf]
   |cons x a ih=>simp only[Ac,Sc.Gf,ih,Bb]
  rw[<-this,Ev]
 rw[h1,kv8 l j hj];simp only[Ag];omega
attribute [local irreducible] TR TC
theorem kw0 (gl:List (Nat × List D))(p:Pr)(hb:(Sc.Hl p).length<=1000000000)
 (ih:∀ x:Pr,(x∈p.l\/x∈p.spec.body\/∃ g∈p.guards,x∈g.body)->(Sc.Hl x).length<=1000000000->FnD prog gl 23 [.d (dPr x)] (fun v=>v=.d (.list 1 ((Sc.Hl x).map .str)))):
 FnD prog gl 23 [.d (dPr p)] (fun v=>v=.d (.list 1 ((Sc.Hl p).map .str))):=by
 have hb0:=hb;rw[kv9]at hb0;simp only[Ag,Aa]at hb0;have hdecl:=kv9 p;generalize Sc.Hl p=dp at hdecl hb ⊢;simp only[v8]at ih ⊢
 (refine j3 func23 ntmps23 results23 fun w M=>?_)
 refine k9 0 24 rfl rfl fun hnl=>?_;refine k9 0 23 rfl rfl fun hng=>?_;refine k9 0 40 rfl rfl fun hnf=>?_;refine k9 0 41 rfl rfl fun hns=>?_;simp only[Aa]at hnl hng hnf hns;obtain⟨C,hC⟩:∃ C:List D,C=((if p.rep.name=ByteArray.empty then [] else [p.rep.name])++p.spec.names).map D.str:=⟨_,rfl⟩
 ((repeat' first|refine Ca 1 ?_;(refine j6 1 ?_)|refine Ck 2 ?_;refine halt ?_|refine yyp ?_;try refine Cc ?_ ?_<;>intro hb|refine yy ?_|refine at_nil ?_;refine Ce Pz ?_|refine Cb fun K hK=>?_|apply_assumption -exfalso -symm);all_goals try refine unhalt ?_)
 refine jf1 (t:=3) (e:=9) (sz:=1) rfl rfl ?_;by_cases h0:p.rep.name=ByteArray.empty
 all_goals
  first
   |rw[Ae h0]at hb0 hdecl
   |rw[Af h0]at hb0 hdecl
  simp only[Aq,Ai]at hb0
  (repeat' first|refine Ca 17 ?_;(refine Dh 17 ?_)|refine yyp ?_;try refine Cc ?_ ?_<;>intro hb|refine yy ?_|refine yy2 ?_ ?_<;>intro hcmp|(refine Cq ?_;first|(refine Cs (fun kv=>?_))|(refine z_append_suf (fun sx sp kv hsx hsp hsl=>?_)))|refine at_nil ?_;refine Ce Pz ?_|refine Cb fun K hK=>?_|apply_assumption -exfalso -symm)
  all_goals first
   |(exfalso;exact h0 hcmp)
   |(exfalso;exact hcmp h0)
   |skip
  first
   |rw[show([]++List.map D.str p.spec.names)=C++[] from by rw[hC,Ae h0];simp]
   |rw[show([]++[D.str p.rep.name]++List.map D.str p.spec.names)=C++[] from by rw[hC,Af h0];simp]
  have hCl:C.length<=1000000000/\C.length+p.spec.formals.length+(Sc.Dr p.spec.body).length+(Sc.Gf p.guards).length+(Sc.Dr p.l).length<=1000000000:=by
   rw[hC]
   first
    |rw[Ae h0]
    |rw[Af h0]
   simp only[Aa,Ag,Aq,Ai];omega
  refine j8 [3,4,24,25,26,27,28,29,30,31,32,33,34,35,36,37,38,39,40,41] [3] (fun x:Nat × Nat=>[(4,.d (.int .i64 x.1)),(3,.own 3 x.2)]) (fun x=>[(3,.row 9 1 true (C++(p.spec.formals.take x.1).map (fun f=>D.str f.name)) x.2)]) (fun x=>x.1<=p.spec.formals.length) (fun x=>p.spec.formals.length - x.1) (0,kv) (Ak _) fun⟨j,kv⟩ hj=>?_;dsimp only[Ac,Ad]at hj ⊢;rcases Ah j p.spec.formals.length with hj2|hj2
  ·have hlj:(C++(p.spec.formals.take j).map (fun f=>D.str f.name)).length<=1000000000:=by simp only[Ag,Aa,Aj];omega
   (repeat' first|refine Ca 40 ?_;(refine Dh 40 ?_)|refine yyp ?_;try refine Cc ?_ ?_<;>intro hb|refine yy ?_|(refine Cq ?_;first|(refine Cs (fun kv=>?_))|(refine z_append_suf (fun sx sp kv hsx hsp hsl=>?_)))|refine at_nil ?_;refine Ce Pz ?_|refine Cb fun K hK=>?_|apply_assumption -exfalso -symm)
   refine⟨(j+1,kv),by dsimp only;omega,by dsimp only;omega,?_⟩;dsimp only;rw[<-ja3 _ _ hj2];simp only[Ap,Am,Aw,<-Bb];exact v6
  obtain rfl:j=p.spec.formals.length:=by omega
  rw[Au]
  (repeat' first|refine yyp ?_;try refine Cc ?_ ?_<;>intro hb|refine yy ?_|refine at_nil ?_;refine Ce Pz ?_|refine Cb fun K hK=>?_|apply_assumption -exfalso -symm)
  obtain⟨C2,hC2⟩:∃ C2:List D,C2=C++p.spec.formals.map (fun f=>D.str f.name):=⟨_,rfl⟩;rw[<-hC2,<-Bp C2];simp only[v8];have hC2l:C2.length=C.length+p.spec.formals.length:=by rw[hC2,Ag,Aa]
  refine j8 [3,5,42,43,44,45,46,47,48,49,50,51,52,53,54,55,56,57,58] [3] (fun x:Nat × Nat=>[(5,.d (.int .i64 x.1)),(3,.own 3 x.2)]) (fun x=>[(3,.row 9 1 true (C2++(Sc.Dr (p.spec.body.take x.1)).map D.str) x.2)]) (fun x=>x.1<=p.spec.body.length) (fun x=>p.spec.body.length - x.1) (0,kv) (Ak _) fun⟨j,kv⟩ hj=>?_;dsimp only[Ac,Ad]at hj ⊢;rcases Ah j p.spec.body.length with hj2|hj2
  ·have hsub:=kq0 p.spec.body j hj2;have hlj:(C2++(Sc.Dr (p.spec.body.take j)).map D.str).length+(Sc.Hl p.spec.body[j]).length<=1000000000:=by simp only[Ag,Aa];omega
   have hone:=ih p.spec.body[j] (.inr (.inl (Ar hj2))) (by omega);simp only[Ag,Aa]at hlj
   (repeat' first|refine yyp ?_;try refine Cc ?_ ?_<;>intro hb|refine yy ?_|(refine Cq ?_;first|(refine Cs (fun kv=>?_))|(refine z_append_suf (fun sx sp kv hsx hsp hsl=>?_)))|refine Cf 23 ?_;refine Cg (hc:=hone) ?_|refine at_nil ?_;refine Ce Pz ?_|refine Cb fun K hK=>?_|apply_assumption -exfalso -symm)
   refine⟨(j+1,kv),by dsimp only;omega,by dsimp only;omega,?_⟩;dsimp only;rw[ju2 _ _ hj2];simp only[Ap,<-Bb];exact v6
  obtain rfl:j=p.spec.body.length:=by omega
  rw[Au]
  (repeat' first|refine yyp ?_;try refine Cc ?_ ?_<;>intro hb|refine yy ?_|refine at_nil ?_;refine Ce Pz ?_|refine Cb fun K hK=>?_|apply_assumption -exfalso -symm)
  obtain⟨C3,hC3⟩:∃ C3:List D,C3=C2++(Sc.Dr p.spec.body).map D.str:=⟨_,rfl⟩;rw[<-hC3,<-Bp C3];have hC3l:C3.length=C2.length+(Sc.Dr p.spec.body).length:=by rw[hC3,Ag,Aa]
  rw[qe3];refine j8 [3,6,7,59,60,61,62,63,64,65,66,67,68,69,70,71,72,73,74,75,76,77,78,79,80,81,82,83,84,85,86,87,88] [3] (fun x:Nat × Nat=>[(6,.d (.int .i64 x.1)),(3,.own 3 x.2)]) (fun x=>[(3,.row 9 1 true (C3++(Sc.Gf (p.guards.take x.1)).map D.str) x.2)]) (fun x=>x.1<=p.guards.length) (fun x=>p.guards.length - x.1) (0,kv) (Ak _) fun⟨j,kv⟩ hj=>?_;dsimp only[Ac,Ad]at hj ⊢;rcases Ah j p.guards.length with hj2|hj2
  ·have hsg:=ql3 p.guards j hj2
   (repeat' first|refine yyp ?_;try refine Cc ?_ ?_<;>intro hb|refine yy ?_|refine at_nil ?_;refine Ce Pz ?_|refine Cb fun K hK=>?_|apply_assumption -exfalso -symm)
   refine jq5 1 23 j 22 rfl rfl (by rw[Bx,Be hj2];rfl) rfl fun hsb=>?_;simp only[Aa]at hsb;obtain⟨C4,hC4⟩:∃ C4:List D,C4=C3++(Sc.Gf (p.guards.take j)).map D.str:=⟨_,rfl⟩;rw[<-hC4,<-Bp C4];have hC4l:C4.length=C3.length+(Sc.Gf (p.guards.take j)).length:=by rw[hC4,Ag,Aa]
   refine j8 [3,7,66,67,68,69,70,71,72,73,74,75,76,77,78,79,80,81,82,83,84,85,86,87,88] [3] (fun x:Nat × Nat=>[(7,.d (.int .i64 x.1)),(3,.own 3 x.2)]) (fun x=>[(3,.row 9 1 true (C4++(Sc.Dr (p.guards[j].body.take x.1)).map D.str) x.2)]) (fun x=>x.1<=p.guards[j].body.length) (fun x=>p.guards[j].body.length - x.1) (0,kv) (Ak _) fun⟨i,kv⟩ hi=>?_;dsimp only[Ac,Ad]at hi ⊢;rcases Ah i p.guards[j].body.length with hi2|hi2
   ·have hsub:=kq0 p.guards[j].body i hi2;have hone:=ih p.guards[j].body[i] (.inr (.inr ⟨p.guards[j],Ar hj2,Ar hi2⟩)) (by omega)
    (repeat' first|refine yyp ?_;try refine Cc ?_ ?_<;>intro hb|refine yy ?_|(refine Cq ?_;first|(refine Cs (fun kv=>?_))|(refine z_append_suf (fun sx sp kv hsx hsp hsl=>?_)))|refine Cf 23 ?_;refine Cg (hc:=hone) ?_|refine at_nil ?_;refine Ce Pz ?_|refine Cb fun K hK=>?_|apply_assumption -exfalso -symm)
    refine⟨(i+1,kv),by dsimp only;omega,by dsimp only;omega,?_⟩;dsimp only;rw[ju2 _ _ hi2];simp only[Ap,<-Bb];exact v6
   obtain rfl:i=p.guards[j].body.length:=by omega
   rw[Au]
   (repeat' first|refine yyp ?_;try refine Cc ?_ ?_<;>intro hb|refine yy ?_|refine at_nil ?_;refine Ce Pz ?_|refine Cb fun K hK=>?_|apply_assumption -exfalso -symm)
   refine⟨(j+1,kv),by dsimp only;omega,by dsimp only;omega,?_⟩;dsimp only;rw[kv8 _ _ hj2,hC4];simp only[Ap,<-Bb];exact v6
  obtain rfl:j=p.guards.length:=by omega
  rw[Au]
  (repeat' first|refine yyp ?_;try refine Cc ?_ ?_<;>intro hb|refine yy ?_|refine at_nil ?_;refine Ce Pz ?_|refine Cb fun K hK=>?_|apply_assumption -exfalso -symm)
  obtain⟨C5,hC5⟩:∃ C5:List D,C5=C3++(Sc.Gf p.guards).map D.str:=⟨_,rfl⟩;rw[<-hC5,<-Bp C5];have hC5l:C5.length=C3.length+(Sc.Gf p.guards).length:=by rw[hC5,Ag,Aa]
  refine j8 [3,8,89,90,91,92,93,94,95,96,97,98,99,100,101,102,103] [3] (fun x:Nat × Nat=>[(8,.d (.int .i64 x.1)),(3,.own 3 x.2)]) (fun x=>[(3,.row 9 1 true (C5++(Sc.Dr (p.l.take x.1)).map D.str) x.2)]) (fun x=>x.1<=p.l.length) (fun x=>p.l.length - x.1) (0,kv) (Ak _) fun⟨j,kv⟩ hj=>?_;dsimp only[Ac,Ad]at hj ⊢;rcases Ah j p.l.length with hj2|hj2
  ·have hsub:=kq0 p.l j hj2;have hone:=ih p.l[j] (.inl (Ar hj2)) (by omega)
   (repeat' first|refine yyp ?_;try refine Cc ?_ ?_<;>intro hb|refine yy ?_|(refine Cq ?_;first|(refine Cs (fun kv=>?_))|(refine z_append_suf (fun sx sp kv hsx hsp hsl=>?_)))|refine Cf 23 ?_;refine Cg (hc:=hone) ?_|refine at_nil ?_;refine Ce Pz ?_|refine Cb fun K hK=>?_|apply_assumption -exfalso -symm)
   refine⟨(j+1,kv),by dsimp only;omega,by dsimp only;omega,?_⟩;dsimp only;rw[ju2 _ _ hj2];simp only[Ap,<-Bb];exact v6
  obtain rfl:j=p.l.length:=by omega
  rw[Au]
  (repeat' first|refine yyp ?_;try refine Cc ?_ ?_<;>intro hb|refine yy ?_|refine at_nil ?_;refine Ce Pz ?_|refine Cb fun K hK=>?_|apply_assumption -exfalso -symm)
  (refine j0 (j5 ?_))
  rw[hdecl,hC5,hC3,hC2,hC]
  first
   |rw[Ae h0]
   |rw[Af h0]
  simp only[oneOf,Ap,Bb,List.map_map];rfl
theorem mc9 (gl:List (Nat × List D)):∀ (n:Nat) (p:Pr),SizeOf.sizeOf p<=n->(Sc.Hl p).length<=1000000000->FnD prog gl 23 [.d (dPr p)] (fun v=>v=.d (.list 1 ((Sc.Hl p).map .str))):=by
 intro n
 induction n with
 |zero=>intro p h;cases p;simp only[Pr.mk.sizeOf_spec]at h;omega
 |succ n ih=>
  intro p hp hb;refine kw0 gl p hb fun x hx hxb=>ih x ?_ hxb;rcases hx with hx|hx|⟨g,hg,hx⟩
  ·have:=mv0 hx;omega
  ·have:=mv2 hx;omega
  ·have:=mv1 hg hx;omega
end
section
variable {mm:Int}
section
variable {E:Set}{S:Sd}{dst:Option Tmp}{ty:TypeId}{pos:String}{af:Array Edge}{gd:Option (Nat × Bool)}
end
attribute [local irreducible] TR TC
end
section
namespace Sc
open Classical
mutual
def He (old fr:ByteArray):Ex->Ex
 |.mk kind op ty n s l=>.mk kind op ty n (if Dt kind then (if s=old then fr else s) else s) (Gp old fr l)
def Gp (old fr:ByteArray):List Ex->List Ex
 |[]=>[]
 |e::l=>He old fr e::Gp old fr l
end
mutual
noncomputable def Ja (old fr:ByteArray):Pr->Pr
 |.mk kind name chan targets exprs rep guards l procs (.mk sk st sn se spp sf sb)=>
  .mk kind name (He old fr chan) (Gp old fr targets) (Gp old fr exprs) ⟨rep.name,He old fr rep.base,He old fr rep.count⟩
    (if old∈sn\/rep.name=old then guards else Jd old fr guards) (if old∈sn\/rep.name=old then l else Io old fr l) procs
    (.mk sk st sn (He old fr se) spp sf (if old∈sf.map (·.name) then sb else Io old fr sb))
noncomputable def Io (old fr:ByteArray):List Pr->List Pr
 |[]=>[]
 |p::l=>Ja old fr p::Io old fr l
noncomputable def Ra (old fr:ByteArray):Gu->Gu
 |.mk kind name cond chan targets values time body=>.mk kind name (He old fr cond) (He old fr chan) (Gp old fr targets) (Gp old fr values) (He old fr time) (Io old fr body)
noncomputable def Jd (old fr:ByteArray):List Gu->List Gu
 |[]=>[]
 |g::l=>Ra old fr g::Jd old fr l
end
theorem Pn (old fr:ByteArray):∀ l:List Ex,Gp old fr l=l.map (He old fr)
 |[]=>by simp[Gp]
 |e::l=>by simp only[Gp,Am,Pn old fr l]
def txN (old fr:ByteArray)(m:Bool)(s:ByteArray):ByteArray:=if m=true/\s=old then fr else s
def rpE (old fr:ByteArray)(m:Bool)(e:Ex):Ex:=if m then He old fr e else e
def jr7 (old fr:ByteArray)(m:Bool)(l:List Ex):List Ex:=if m then Gp old fr l else l
structure Ren (old fr:ByteArray)(m:Bool)(σ τ:W):Prop where
 las:∀ s,s≠old->s≠fr->la τ.env s=la σ.env s
 lo:la τ.env (if m then fr else old)=la σ.env old
 so:la σ.env old≠none
 nf:la σ.env fr=none
 tags:∀ s x,la σ.env s=some x->old∉x.tags/\fr∉x.tags
 count:σ.count=τ.count
 ev:σ.ev=τ.ev
 has:∀ s,σ.has s↔τ.has s
variable {old fr:ByteArray}{m:Bool}
def ka4 (fr:ByteArray)(σ:W):Prop:=∀ e∈σ.ev,e.1≠fr
theorem Grow.Nn {σ τ:W}{n:Nat}(h:Grow σ τ n)(hf:ka4 fr τ):ka4 fr σ:=fun e he=>hf e (h.pre.subset he)
structure Alike {α:Type}(old fr:ByteArray)(m:Bool)(a b:α × W):Prop where
 eq:b.1=a.1
 ren:Ren old fr m a.2 b.2
theorem Ren.Vk {σ τ:W}(h:Ren old fr m σ τ){e e':List (ByteArray × Bool)}(he:e=e'):Ren old fr m {σ with ev:=e} {τ with ev:=e'}:=⟨h.las,h.lo,h.so,h.nf,h.tags,h.count,he,h.has⟩
theorem Ren.name {σ τ:W}(h:Ren old fr m σ τ)(s:ByteArray)(hF:ka4 fr (nameOf σ s).2):Alike old fr m (nameOf σ s) (nameOf τ (txN old fr m s))/\la τ.env (txN old fr m s)=la σ.env s:=by
 have key:la τ.env (txN old fr m s)=la σ.env s/\(la σ.env s=none->txN old fr m s=s):=by
  unfold txN;by_cases hs:s=old
  ·subst hs;have h1:=h.lo;cases m with
   |true=>
    rw[Ae ⟨rfl,rfl⟩];exact⟨h1,fun hn=>absurd hn h.so⟩
   |false=>
    rw[Af (fun h=>by cases h.1)];exact⟨h1,fun _=>rfl⟩
  ·rw[Af (fun h=>hs h.2)];refine⟨?_,fun _=>rfl⟩;by_cases hf:s=fr
   ·exfalso;subst hf;have h2:=h.nf;unfold nameOf at hF;unfold la at h2;rw[h2]at hF;exact hF (s,false) (by simp[step]) rfl
   ·exact h.las s hs hf
 refine⟨?_,key.1⟩;obtain⟨k1,k2⟩:=key;unfold nameOf;unfold la at k1 k2;rw[k1];cases h1:(σ.env s).getLast? with
 |some x=>exact⟨rfl,h⟩
 |none=>
  rw[h1]at k2;rw[k2 rfl];exact⟨rfl,h.Vk (by rw[h.ev])⟩
theorem Ren.name2 {σ τ:W}(h:Ren old fr m σ τ)(s:ByteArray)(hs:s≠old)(hF:ka4 fr (nameOf σ s).2):Alike old fr m (nameOf σ s) (nameOf τ s)/\la τ.env s=la σ.env s:=by
 have:=h.name s hF
 rwa [show txN old fr m s=s by unfold txN;rw[Af (fun h=>hs h.2)]]at this
mutual
theorem ji6:∀ (e:Ex) (σ τ:W),Ren old fr m σ τ->ka4 fr (j2 σ e).2->Alike old fr m (j2 σ e) (j2 τ (rpE old fr m e))
 |.mk kind op ty n s l,σ,τ,h,hF=>by
  have e1:rpE old fr m (.mk kind op ty n s l)=.mk kind op ty n (if Dt kind then txN old fr m s else s) (jr7 old fr m l):=by
   unfold rpE jr7 txN;cases m with
   |true=>simp only[He,if_true,true_and]
   |false=>simp
  rw[e1];simp only[j2]at hF ⊢;have h1:Alike old fr m (if Dt kind then nameOf σ s else (s,σ)) (if Dt kind then nameOf τ (if Dt kind then txN old fr m s else s) else ((if Dt kind then txN old fr m s else s),τ)):=by
   have hF1:=(jh4 l _).Nn hF;split
   ·rename_i hk;rw[Ae hk]at hF1;exact(h.name s hF1).1
   ·exact⟨rfl,h⟩
  have hq:=kd3 l _ _ h1.ren hF;exact⟨by rw[h1.eq,hq.eq],hq.ren⟩
theorem kd3:∀ (l:List Ex) (σ τ:W),Ren old fr m σ τ->ka4 fr (l3 σ l).2->Alike old fr m (l3 σ l) (l3 τ (jr7 old fr m l))
 |[],_,_,h,_=>by
  have:jr7 old fr m []=[]:=by unfold jr7;split<;>simp[Gp]
  rw[this];simp only[l3];exact⟨rfl,h⟩
 |e::l,σ,τ,h,hF=>by
  have e1:jr7 old fr m (e::l)=rpE old fr m e::jr7 old fr m l:=by unfold jr7 rpE;split<;>simp[Gp]
  rw[e1];simp only[l3]at hF ⊢;have h1:=ji6 e σ τ h ((jh4 l _).Nn hF);have h2:=kd3 l _ _ h1.ren hF;exact⟨by rw[h1.eq,h2.eq],h2.ren⟩
end
theorem jk8 (l:List Ex){σ τ:W}(h:Ren old fr m σ τ)(hF:ka4 fr (Cv j2 σ l).2):Alike old fr m (Cv j2 σ l) (Cv j2 τ (jr7 old fr m l)):=by
 rw[<-ja5]at hF;rw[<-ja5,<-ja5];exact kd3 l σ τ h hF
theorem Ren.fresh {σ τ:W}(h:Ren old fr m σ τ):Alike old fr m (Ct σ) (Ct τ):=by
 have hc:=kr4 h.has;unfold Ct;dsimp only;rw[h.count,hc];exact⟨rfl,h.las,h.lo,h.so,h.nf,h.tags,rfl,h.ev,h.has⟩
theorem Ren.typed {σ τ:W}(h:Ren old fr m σ τ)(t:Ty)(ht:t.proto≠old)(hF:ka4 fr (Gn σ t).2):Alike old fr m (Gn σ t) (Gn τ t)/\(t.proto≠ByteArray.empty->la τ.env t.proto=la σ.env t.proto):=by
 unfold Gn at hF ⊢;split
 ·rename_i h1;exact⟨⟨rfl,h⟩,fun h=>absurd h1 h⟩
 ·rename_i h1;rw[Af h1]at hF;have:=h.name2 t.proto ht hF;exact⟨⟨by dsimp only;rw[this.1.eq],this.1.ren⟩,fun _=>this.2⟩
theorem km2 {f g:ByteArray->List Ent}{t:Ty}(h:t.proto≠ByteArray.empty->la g t.proto=la f t.proto):Cz g t=Cz f t:=by
 unfold Cz;split
 ·rename_i h1;have:=h h1.2;unfold la at this;rw[this]
 ·rfl
theorem kd4:∀ (l:List Fo) (σ τ:W),Ren old fr m σ τ->(∀ f∈l,f.type.proto≠old)->ka4 fr (Cv Cx σ l).2->Alike old fr m (Cv Cx σ l) (Cv Cx τ l)/\(l.map fun f=>(false,Cz τ.env f.type))=l.map fun f=>(false,Cz σ.env f.type)
 |[],_,_,h,_,_=>⟨⟨rfl,h⟩,rfl⟩
 |f::l,σ,τ,h,ho,hF=>by
  simp only[Cv]at hF ⊢;have hg:=Oo (fun _=>1) (fun f σ=>Ko σ f) l (Cx σ f).2;obtain⟨h1,h2⟩:=h.typed f.type (ho f Bi) (hg.Nn hF);have h3:=kd4 l (Cx σ f).2 (Cx τ f).2 h1.ren (fun g hg=>ho g (Bk _ hg)) hF;refine⟨⟨?_,h3.1.ren⟩,?_⟩
  ·rw[h3.1.eq];unfold Cx;dsimp only;rw[h1.eq]
  ·have h5:=h3.2;have e3:(Cx σ f).2.env=σ.env:=(Ko σ f).env;have e4:(Cx τ f).2.env=τ.env:=(Ko τ f).env;rw[e3,e4]at h5;simp only[Am,h5,km2 h2]
theorem kq1:∀ (l:List (Bool × List ByteArray)) (σ τ:W),Ren old fr m σ τ->Alike old fr m (Co σ l) (Co τ l)
 |[],_,_,h=>⟨rfl,h⟩
 |x::l,σ,τ,h=>by
  have h1:=h.fresh;have h2:=kq1 l _ _ h1.ren;simp only[Co];exact⟨by rw[h1.eq,h2.eq],h2.ren⟩
theorem Ren.twice {σ τ:W}(h:Ren old fr m σ τ)(l:List ByteArray):Ren old fr m (Cu σ l) (Cu τ l):=h.Vk (by rw[h.ev])
theorem Ren.head {σ τ:W}(h:Ren old fr m σ τ)(sk:Int)(st:Ty)(sn:List ByteArray)(se:Ex)(spp:Pt)(sf:List Fo)(hst:st.proto≠old)(hsf:∀ f∈sf,f.type.proto≠old)(htg:∀ v∈spp.l,v.tag≠old/\v.tag≠fr)(hF:ka4 fr (Fu σ (.mk sk st sn se spp sf [])).2):
 Alike old fr m (Fu σ (.mk sk st sn se spp sf [])) (Fu τ (.mk sk st sn (rpE old fr m se) spp sf []))/\sn.length=(Fu σ (.mk sk st sn se spp sf [])).1.own.length/\sf.length=(Fu σ (.mk sk st sn se spp sf [])).1.inner.length/\
  ∀ x,x∈(Fu σ (.mk sk st sn se spp sf [])).1.own\/x∈(Fu σ (.mk sk st sn se spp sf [])).1.inner->old∉x.tags/\fr∉x.tags:=by
 unfold Fu at *;dsimp only[Sp.names,Sp.formals,Sp.type,Sp.e,Sp.kind]at *;have hct:∀ t:Ty,old∉Cz σ.env t/\fr∉Cz σ.env t:=fun t=>by
  unfold Cz;split
  ·cases h1:(σ.env t.proto).getLast? with
   |none=>exact⟨fun h=>(by cases h),fun h=>(by cases h)⟩
   |some x=>
    dsimp only;split
    ·exact h.tags _ x h1
    ·exact⟨fun h=>(by cases h),fun h=>(by cases h)⟩
  ·exact⟨fun h=>(by cases h),fun h=>(by cases h)⟩
 have n2:=Jv (sn.map fun _=>Dy σ.env (.mk sk st sn se spp sf [])) (Cu σ sn);have t2:=kg3 (has:=fun s=>s≠old/\s≠fr) (sn.map fun _=>Dy σ.env (.mk sk st sn se spp sf [])) (Cu σ sn) (fun x hx=>by
  obtain⟨_,_,rfl⟩:=Bs.1 hx;unfold Dy;split
  ·dsimp only;unfold Ky;split
   ·intro t ht;obtain⟨v,hv,rfl⟩:=Bs.1 ht;exact htg v hv
   ·intro t ht;cases ht
  ·intro t ht;exact⟨fun e=>(hct st).1 (e ▸ ht),fun e=>(hct st).2 (e ▸ ht)⟩)
 have b2:=kq1 (old:=old) (fr:=fr) (m:=m) (sn.map fun _=>Dy σ.env (.mk sk st sn se spp sf [])) (Cu σ sn);have x2:=(Jo (sn.map fun _=>Dy σ.env (.mk sk st sn se spp sf [])) (Cu σ sn)).env;generalize Co (Cu σ sn) (sn.map fun _=>Dy σ.env (.mk sk st sn se spp sf []))=o at n2 t2 b2 x2 hF ⊢;have n4:=Jv (sf.map fun f=>(false,Cz σ.env f.type)) (Cu o.2 (sf.map (·.name)));have t4:=kg3 (has:=fun s=>s≠old/\s≠fr) (sf.map fun f=>(false,Cz σ.env f.type)) (Cu o.2 (sf.map (·.name))) (fun x hx=>by
  obtain⟨f,_,rfl⟩:=Bs.1 hx;intro t ht;exact⟨fun e=>(hct f.type).1 (e ▸ ht),fun e=>(hct f.type).2 (e ▸ ht)⟩)
 have b4:=kq1 (old:=old) (fr:=fr) (m:=m) (sf.map fun f=>(false,Cz σ.env f.type)) (Cu o.2 (sf.map (·.name)));have x4:=(Jo (sf.map fun f=>(false,Cz σ.env f.type)) (Cu o.2 (sf.map (·.name)))).env;generalize Co (Cu o.2 (sf.map (·.name))) (sf.map fun f=>(false,Cz σ.env f.type))=i at n4 t4 b4 x4 hF ⊢;have b5:=fun(τ:W) (h:Ren old fr m i.2 τ)=>h.typed st hst;have x5:=(Na i.2 st).env;generalize Gn i.2 st=t at b5 x5 hF ⊢;have g6:=Oo (fun _=>1) (fun f σ=>Ko σ f) sf t.2;have b6:=kd4 (old:=old) (fr:=fr) (m:=m) sf t.2;generalize Cv Cx t.2 sf=f at g6 b6 hF ⊢;have g7:=Dj se f.2;have b7:=ji6 (old:=old) (fr:=fr) (m:=m) se f.2;have F6:=g7.Nn hF;have F5:=g6.Nn F6;simp only[Aa]at n2 n4;have l2:=b2 _ (h.twice sn);have l4:=b4 _ (l2.ren.twice (sf.map (·.name)));have l5:=b5 _ l4.ren F5;have l6:=b6 _ l5.1.ren hsf F6;have l7:=b7 _ l6.1.ren hF;have y2:(Co (Cu τ sn) (sn.map fun _=>Dy σ.env (.mk sk st sn se spp sf []))).2.env=τ.env:=(Jo _ _).env;have y4:(Co (Cu (Co (Cu τ sn) (sn.map fun _=>Dy σ.env (.mk sk st sn se spp sf []))).2 (sf.map (·.name))) (sf.map fun f=>(false,Cz σ.env f.type))).2.env=τ.env:=(Jo _ _).env.trans y2;have x4':i.2.env=σ.env:=x4.trans x2;have ec0:Cz τ.env st=Cz σ.env st:=km2 (by have:=l5.2;rw[y4,x4']at this;exact this);have eo:Dy τ.env (.mk sk st sn (rpE old fr m se) spp sf [])=Dy σ.env (.mk sk st sn se spp sf []):=by
  unfold Dy Ky;dsimp only[Sp.kind,Sp.type,Sp.proto];rw[ec0];rfl
 have ec:(sf.map fun f=>(false,Cz τ.env f.type))=sf.map fun f=>(false,Cz σ.env f.type):=by
  have h6:=l6.2;have h5:(Gn (Co (Cu (Co (Cu τ sn) (sn.map fun _=>Dy σ.env (.mk sk st sn se spp sf []))).2 (sf.map (·.name))) (sf.map fun f=>(false,Cz σ.env f.type))).2 st).2.env=τ.env:=(Na _ _).env.trans y4;rw[h5,x5,x4']at h6;exact h6
 rw[eo,ec];refine⟨⟨?_,l7.ren⟩,n2.symm,n4.symm,fun x hx=>?_⟩
 ·rw[l2.eq,l4.eq,l5.1.eq,l6.1.eq,l7.eq]
 ·have:∀ t∈x.tags,t≠old/\t≠fr:=hx.elim (t2 x) (t4 x);exact⟨fun h=>(this _ h).1 rfl,fun h=>(this _ h).2 rfl⟩
theorem Ren.push1 {has:Prop}{f g:ByteArray->List Ent}{σ τ:W}(h:Ren old fr m σ τ)(s:ByteArray)(x:Ent)(hs:s≠fr)(ht:old∉x.tags/\fr∉x.tags):
 Ren old fr (m && !decide (s=old)) {σ with env:=fun t=>if t=s then σ.env t++[x] else σ.env t} {τ with env:=fun t=>if t=s then τ.env t++[x] else τ.env t}:=by
 have e1:∀ (υ:ByteArray->List Ent) t,la (fun t=>if t=s then υ t++[x] else υ t) t=if t=s then some x else la υ t:=fun υ t=>by
  unfold la;dsimp only;split
  ·exact List.getLast?_concat
  ·rfl
 refine⟨fun t h1 h2=>?_,?_,?_,?_,fun t y hy=>?_,h.count,h.ev,h.has⟩
 ·dsimp only;rw[e1,e1,h.las t h1 h2]
 ·dsimp only;rw[e1,e1];by_cases ho:s=old
  ·rw[Ae ho.symm,Bt ho];simp[ho]
  ·have hne:¬(if m=true then fr else old)=s:=by
    cases m with
    |true=>exact fun e=>hs e.symm
    |false=>exact fun e=>ho e.symm
   rw[Bq ho];simp only[Bool.not_false,Bn];rw[Af hne,Af (c:=old=s) (fun e=>ho e.symm)];exact h.lo
 ·dsimp only;rw[e1];split
  ·exact fun h=>by cases h
  ·exact h.so
 ·dsimp only;rw[e1,Af (fun e=>hs e.symm)];exact h.nf
 ·dsimp only at hy;rw[e1]at hy;split at hy
  ·cases hy;exact ht
  ·exact h.tags t y hy
theorem Ren.push:∀ (ns:List ByteArray) {xs:List Ent} {m:Bool} {σ τ:W},ns.length=xs.length->Ren old fr m σ τ->(∀ s∈ns,s≠fr)->(∀ x∈xs,old∉x.tags/\fr∉x.tags)->
 Ren old fr (m && !decide (old∈ns)) {σ with env:=Cn σ.env ns xs} {τ with env:=Cn τ.env ns xs}
 |[],[],m,σ,τ,_,h,_,_=>by simpa [Cn]using h
 |[],_::_,_,_,_,hl,_,_,_=>by cases hl
 |_::_,[],_,_,_,hl,_,_,_=>by cases hl
 |s::ns,x::xs,m,σ,τ,hl,h,hs,ht=>by
  have h1:=h.push1 (has:=True) (f:=fun _=>[]) (g:=fun _=>[]) s x (hs s Bi) (ht x Bi);have h2:=Ren.push ns (by simpa using hl) h1 (fun s h=>hs s (Bk _ h)) fun x h=>ht x (Bk _ h);have e:(m && !decide (s=old) && !decide (old∈ns))=(m && !decide (old∈s::ns)):=by
   rw[Bool.and_assoc,<-Bool.not_or];congr 2;rw[Ej];simp only[Bo,Al,Bf];exact⟨fun h=>h.imp Eq.symm id,fun h=>h.imp Eq.symm id⟩
  rw[e]at h2;exact h2
theorem Ren.around {σ τ a b:W}{m':Bool}(h:Ren old fr m σ τ)(k:Ren old fr m' a b):Ren old fr m {a with env:=σ.env} {b with env:=τ.env}:=⟨h.las,h.lo,h.so,h.nf,h.tags,k.count,k.ev,k.has⟩
theorem qy1 (tag:Bool)(l:List Ex){σ τ:W}(h:Ren old fr m σ τ)(hF:ka4 fr (Dn tag σ l).2)(ht:tag=true->∀ e∈l.head?,rpE old fr m e=e):Alike old fr m (Dn tag σ l) (Dn tag τ (jr7 old fr m l)):=by
 cases l with
 |nil=>
  have:jr7 old fr m []=[]:=by unfold jr7;split<;>simp[Gp]
  rw[this];exact⟨rfl,h⟩
 |cons e l=>
  have e1:jr7 old fr m (e::l)=rpE old fr m e::jr7 old fr m l:=by unfold jr7 rpE;split<;>simp[Gp]
  cases tag with
  |true=>
   rw[e1,ht rfl e (by simp)];simp only[Dn,if_true]at hF ⊢;have h1:=jk8 l h hF;exact⟨by rw[h1.eq],h1.ren⟩
  |false=>
   have e2:∀ (υ:W) (x:List Ex),Dn false υ x=Cv j2 υ x:=fun _ x=>by cases x<;>rfl
   rw[e2]at hF ⊢;rw[e2];exact jk8 (e::l) h hF
def rpR (old fr:ByteArray)(m:Bool)(r:Rp):Rp:=⟨r.name,rpE old fr m r.base,rpE old fr m r.count⟩
theorem Ren.rep {σ τ:W}(h:Ren old fr m σ τ)(r:Rp)(hF:ka4 fr (Iw σ r).2)(h0:r.name=ByteArray.empty->rpR old fr m r=r):Alike old fr m (Iw σ r) (Iw τ (rpR old fr m r))/\(if r.name=ByteArray.empty then [] else [r.name]).length=(Iw σ r).1.2.length/\∀ x∈(Iw σ r).1.2,x.tags=[]:=by
 by_cases hr:r.name=ByteArray.empty
 ·rw[h0 hr];unfold Iw;rw[Ae hr,Ae hr,Ae hr];exact⟨⟨rfl,h⟩,rfl,fun x hx=>by cases hx⟩
 ·unfold Iw at hF ⊢;have hr':¬(rpR old fr m r).name=ByteArray.empty:=hr;rw[Af hr]at hF ⊢;rw[Af hr',Af hr];dsimp only[rpR]at hF ⊢;have h1:=h.fresh;have g3:=Dj r.count (j2 (Ct σ).2 r.base).2;have h2:=ji6 r.base _ _ h1.ren (g3.Nn hF);have h3:=ji6 r.count _ _ h2.ren hF;exact⟨⟨by rw[h1.eq,h2.eq,h3.eq],h3.ren⟩,rfl,fun x hx=>by rw[Em.1 hx]⟩
theorem Ren.ghead {σ τ:W}(h:Ren old fr m σ τ)(cond chan:Ex)(targets values:List Ex)(time:Ex)(hF:ka4 fr (Ie σ cond chan targets values time).2):
 Alike old fr m (Ie σ cond chan targets values time) (Ie τ (rpE old fr m cond) (rpE old fr m chan) (jr7 old fr m targets) (jr7 old fr m values) (rpE old fr m time)):=by
 unfold Ie at *;dsimp only at *;have g2:=Dj chan (j2 σ cond).2;have g3:=Dm targets (j2 (j2 σ cond).2 chan).2;have g4:=Dm values (Cv j2 (j2 (j2 σ cond).2 chan).2 targets).2;have g5:=Dj time (Cv j2 (Cv j2 (j2 (j2 σ cond).2 chan).2 targets).2 values).2;have F4:=g5.Nn hF;have F3:=g4.Nn F4;have F2:=g3.Nn F3;have F1:=g2.Nn F2;have ha:=ji6 cond _ _ h F1;have hb:=ji6 chan _ _ ha.ren F2;have hc:=jk8 targets hb.ren F3;have hd:=jk8 values hc.ren F4;have he:=ji6 time _ _ hd.ren hF;exact⟨by rw[ha.eq,hb.eq,hc.eq,hd.eq,he.eq],he.ren⟩
theorem ql4 (m:Bool)(e:Ex):(rpE old fr m e).kind=e.kind:=by
 unfold rpE;split
 ·cases e;simp only[He,Ex.kind]
 ·rfl
theorem rh9 (m:Bool)(e:Ex):(rpE old fr m e).s=if Dt e.kind then txN old fr m e.s else e.s:=by
 unfold rpE txN;cases m with
 |true=>cases e;simp only[He,Ex.s,Ex.kind,if_true,true_and]
 |false=>simp
theorem mo9 {σ:W}{e:Ex}(hk:Dt e.kind=true)(hF:ka4 fr (j2 σ e).2):ka4 fr (nameOf σ e.s).2:=by
 obtain⟨kind,op,ty,n,s,l⟩:=e;simp only[j2,Ex.kind,Ex.s]at *;have:=(jh4 l _).Nn hF;rw[Ae hk]at this;exact this
theorem Ren.tagged {σ τ:W}(h:Ren old fr m σ τ){kind:Int}{chan:Ex}{exprs:List Ex}{rep:Rp}(hok:ml1 kind chan exprs rep)(hc:la τ.env (rpE old fr m chan).s=la σ.env chan.s\/kind≠5):
 Cy τ.env kind (rpE old fr m chan) (jr7 old fr m exprs)=Cy σ.env kind chan exprs:=by
 unfold Cy;by_cases hk:kind=5
 ·have hc:=hc.resolve_right (fun h=>h hk);rw[Ae hk,Ae hk];cases exprs with
  |nil=>exact absurd rfl (hok.2 hk).1
  |cons e l=>
   have e1:jr7 old fr m (e::l)=rpE old fr m e::jr7 old fr m l:=by unfold jr7 rpE;split<;>simp[Gp]
   rw[e1];dsimp only;unfold la at hc;rw[hc,ql4];cases hx:(σ.env chan.s).getLast? with
   |none=>rfl
   |some x=>
    dsimp only;by_cases hk4:e.kind=4
    ·rw[rh9,Ae (show Dt e.kind=true by rw[hk4];rfl)];have ht:=h.tags _ x hx;unfold txN;by_cases hs:m=true/\e.s=old
     ·rw[Ae hs,hs.2];have z:∀ s,s∉x.tags->x.tags.any (isB s)=false:=fun s hs=>by
       rw[Bool.eq_false_iff];intro ha;rw[Eo]at ha;obtain⟨t,ht,e⟩:=ha;rw[Li]at e;exact hs (e ▸ ht)
      rw[z _ ht.1,z _ ht.2]
     ·rw[Af hs]
    ·rw[Bq hk4,Av,Av]
 ·rw[Af hk,Af hk]
theorem Ren.phead {σ τ:W}(h:Ren old fr m σ τ)(kind:Int)(name:ByteArray)(chan:Ex)(targets exprs:List Ex)(rep:Rp)(hok:ml1 kind chan exprs rep)(hn:name≠old)(h0:rep.name=ByteArray.empty->rpR old fr m rep=rep)(hF:ka4 fr (Hg σ kind name chan targets exprs rep).2):
 Alike old fr m (Hg σ kind name chan targets exprs rep) (Hg τ kind name (rpE old fr m chan) (jr7 old fr m targets) (jr7 old fr m exprs) (rpR old fr m rep))/\(if rep.name=ByteArray.empty then [] else [rep.name]).length=(Hg σ kind name chan targets exprs rep).1.own.length/\∀ x∈(Hg σ kind name chan targets exprs rep).1.own,x.tags=[]:=by
 have ga:Grow σ (if kind=17 then nameOf σ name else (name,σ)).2 1:=by
  split
  ·exact Ho σ name
  ·exact Grow.refl _ _
 have gb:(if kind=17 then nameOf τ name else (name,τ)).2.env=τ.env:=by
  split
  ·exact(Ho τ name).env
  ·rfl
 have ba:ka4 fr (if kind=17 then nameOf σ name else (name,σ)).2->Alike old fr m (if kind=17 then nameOf σ name else (name,σ)) (if kind=17 then nameOf τ name else (name,τ)):=by
  intro hF;split
  ·rename_i hk;rw[Ae hk]at hF;exact(h.name2 name hn hF).1
  ·exact⟨rfl,h⟩
 unfold Hg at *;dsimp only at *;generalize (if kind=17 then nameOf σ name else (name,σ))=a at ga ba hF ⊢;generalize (if kind=17 then nameOf τ name else (name,τ))=a' at gb ba ⊢;have gc:=Dj chan a.2;have gt:=Dm targets (j2 a.2 chan).2;have gx:=Ic (Cy σ.env kind chan exprs) (Cv j2 (j2 a.2 chan).2 targets).2 exprs;have gr:=mk0 (Dn (Cy σ.env kind chan exprs) (Cv j2 (j2 a.2 chan).2 targets).2 exprs).2 rep;have F4:=gr.Nn hF;have F3:=gx.Nn F4;have F2:=gt.Nn F3;have F1:=gc.Nn F2;have ha:=ba F1;have hc:=ji6 chan _ _ ha.ren F2;have ht:=jk8 targets hc.ren F3;have htag:Cy τ.env kind (rpE old fr m chan) (jr7 old fr m exprs)=Cy σ.env kind chan exprs:=by
  refine h.tagged (rep:=rep) hok ?_;by_cases hk:kind=5
  ·refine .inl ?_;have hn:=(hok.2 hk).2.1;have:=(ha.ren.name chan.s (mo9 hn F2)).2;rw[rh9,Ae hn];rw[gb,ga.env]at this;exact this
  ·exact .inr hk
 rw[htag];have hx:=qy1 (Cy σ.env kind chan exprs) exprs ht.ren F4 (fun htt e he=>by
  unfold Cy at htt;split at htt
  ·rename_i hk;have hl:=(hok.2 hk).2.2 e he;cases exprs with
   |nil=>cases he
   |cons y l=>
    simp only[List.head?_cons,Option.mem_def,Bm]at he;subst he;dsimp only at htt;rw[Ab,Al]at htt;obtain⟨h4,h5⟩:=htt;cases hx:(σ.env chan.s).getLast? with
    |none=>rw[hx]at h5;cases h5
    |some x=>
     rw[hx]at h5;dsimp only at h5;rw[Ab,Eo]at h5;obtain⟨_,t,ht1,ht2⟩:=h5;rw[Li]at ht2;have h6:y.s≠old:=fun e=>(h.tags _ x hx).1 (by rw[<-e,<-ht2];exact ht1);have h7:=hl h4;unfold rpE;split
     ·obtain⟨yk,yo,yt,yn,ys,yl⟩:=y;simp only[Ex.l,Ex.s,Ex.kind]at h7 h6 h4;subst h7;simp only[He,Gp,Af h6,ite_self]
     ·rfl
  ·cases htt)
 have hr:=hx.ren.rep rep hF h0;refine⟨⟨?_,hr.1.ren⟩,hr.2.1,hr.2.2⟩;rw[ha.eq,hc.eq,ht.eq,hx.eq,hr.1.eq]
mutual
def Fy:Pr->List ByteArray
 |.mk _ name _ _ _ _ guards l _ (.mk _ st _ _ spp sf sb)=>[name,st.proto]++(sf.map (·.type.proto)++(spp.l.map (·.tag)++(Fx sb++(Gj guards++Fx l))))
def Fx:List Pr->List ByteArray
 |[]=>[]
 |p::l=>Fy p++Fx l
def Rm:Gu->List ByteArray
 |.mk _ name _ _ _ _ _ body=>name::Fx body
def Gj:List Gu->List ByteArray
 |[]=>[]
 |g::l=>Rm g++Gj l
end
noncomputable def rpP (old fr:ByteArray)(m:Bool)(p:Pr):Pr:=if m then Ja old fr p else p
noncomputable def Rl (old fr:ByteArray)(m:Bool)(p:List Pr):List Pr:=if m then Io old fr p else p
noncomputable def rpG (old fr:ByteArray)(m:Bool)(p:Gu):Gu:=if m then Ra old fr p else p
noncomputable def Ua (old fr:ByteArray)(m:Bool)(p:List Gu):List Gu:=if m then Jd old fr p else p
theorem ri0 (m:Bool)(kind:Int)(name:ByteArray)(chan:Ex)(targets exprs:List Ex)(rep:Rp)(guards:List Gu)(l:List Pr)(procs:List Int)(sk:Int)(st:Ty)(sn:List ByteArray)(se:Ex)(spp:Pt)(sf:List Fo)(sb:List Pr):
 rpP old fr m (.mk kind name chan targets exprs rep guards l procs (.mk sk st sn se spp sf sb))=.mk kind name (rpE old fr m chan) (jr7 old fr m targets) (jr7 old fr m exprs) (rpR old fr m rep) (Ua old fr (m && !decide (old∈sn\/rep.name=old)) guards) (Rl old fr (m && !decide (old∈sn\/rep.name=old)) l) procs
  (.mk sk st sn (rpE old fr m se) spp sf (Rl old fr (m && !decide (old∈sf.map (·.name))) sb)):=by
 unfold rpP Rl Ua rpE jr7 rpR;cases m with
 |false=>simp[rpE]
 |true=>
  simp only[Ja,if_true,Bc,rpE];by_cases h1:old∈sn\/rep.name=old
  ·by_cases h2:old∈sf.map (·.name)
   ·simp[h1,h2]
   ·simp[h1,h2]
  ·by_cases h2:old∈sf.map (·.name)
   ·simp[h1,h2]
   ·simp[h1,h2]
theorem qy2 (m:Bool):rpR old fr m rp0=rp0:=by
 unfold rpR rp0 rpE ex0;cases m<;>simp[He,Gp,Dt]
theorem qy3 (m:Bool):rpE old fr m ex0=ex0:=by
 unfold rpE ex0;cases m<;>simp[He,Gp,Dt]
mutual
theorem qv2 (h0:old≠ByteArray.empty):∀ (p:Pr) (m:Bool) (σ τ:W),Ren old fr m σ τ->Ry p->(∀ s∈Fy p,s≠old/\s≠fr)->(∀ s∈Hl p,s≠fr)->ka4 fr (Fv σ p).2->Alike old fr m (Fv σ p) (Fv τ (rpP old fr m p))
 |.mk kind name chan targets exprs rep guards l procs (.mk sk st sn se spp sf sb),m,σ,τ,h,hok,hnm,hdc,hF=>by
  rw[ri0];simp only[Ry]at hok;simp only[Fy,Bu,Bf,List.not_mem_nil,or_false]at hnm;simp only[Hl,Bu]at hdc;obtain⟨hn,hsp,_,_,hsb,hgu,hpl⟩:=hok;have hr0:rep.name=ByteArray.empty->rpR old fr m rep=rep:=fun e=>by rw[hn.1.2 e,qy2]
  have bh:=h.phead kind name chan targets exprs rep hn (hnm _ (.inl (.inl rfl))).1 hr0;have gh:=Po σ kind name chan targets exprs rep;simp only[Fv]at hF ⊢;generalize Hg σ kind name chan targets exprs rep=a at gh bh hF ⊢;generalize Hg τ kind name (rpE old fr m chan) (jr7 old fr m targets) (jr7 old fr m exprs) (rpR old fr m rep)=a' at bh ⊢;by_cases hk:kind=18
  ·rw[Ae hk]at hF ⊢;rw[Ae hk];have hrn:¬rep.name=old:=by rw[hn.1.1 hk];exact fun e=>h0 e.symm
   have gs:=Oq a.2 (.mk sk st sn se spp sf []);have bs:=fun(τ:W) (h:Ren old fr m a.2 τ)=>h.head sk st sn se spp sf;generalize Fu a.2 (.mk sk st sn se spp sf [])=s at gs bs hF ⊢;have gb:=Iu sb {s.2 with env:=Cn σ.env (sf.map (·.name)) s.1.inner};have bb:=fun m=>kd5 h0 sb m {s.2 with env:=Cn σ.env (sf.map (·.name)) s.1.inner};generalize Gv {s.2 with env:=Cn σ.env (sf.map (·.name)) s.1.inner} sb=b at gb bb hF ⊢;have gg:=Ji guards {b.2 with env:=Cn σ.env sn s.1.own};have bg:=fun m=>md0 h0 guards m {b.2 with env:=Cn σ.env sn s.1.own};generalize Hw {b.2 with env:=Cn σ.env sn s.1.own} guards=g at gg bg hF ⊢;have gm:=Iu l g.2;have bm:=fun m=>kd5 h0 l m g.2;generalize Gv g.2 l=q at gm bm hF ⊢;have Fm:ka4 fr q.2:=hF;have Fg:=gm.Nn Fm;have Fb:ka4 fr b.2:=gg.Nn Fg;have Fs:ka4 fr s.2:=gb.Nn Fb;have Fa:=gs.Nn Fs;have ba:=(bh Fa).1;have bs:=bs _ ba.ren (hnm _ (.inl (.inr rfl))).1 (fun f hf=>(hnm _ (.inr (.inl (Bs.2 ⟨f,hf,rfl⟩)))).1) (fun v hv=>hnm _ (.inr (.inr (.inl (Bs.2 ⟨v,hv,rfl⟩))))) Fs;generalize Fu a'.2 (.mk sk st sn (rpE old fr m se) spp sf [])=s' at bs ⊢;obtain⟨bs,n1,n2,tg⟩:=bs;rw[bs.eq];have lb:=(h.around bs.ren).push (sf.map (·.name)) (by rw[Aa];exact n2) (fun x hx=>hdc x (.inr (.inr (.inl hx)))) fun x hx=>tg x (.inr hx);have bb:=bb _ _ lb hsb (fun s hs=>hnm s (.inr (.inr (.inr (.inl hs))))) (fun s hs=>hdc s (.inr (.inr (.inr (.inl hs))))) Fb;dsimp only at bb;generalize Gv {s'.2 with env:=Cn τ.env (sf.map (·.name)) s.1.inner} (Rl old fr (m && !decide (old∈sf.map (·.name))) sb)=b' at bb ⊢;have lg:=(h.around bb.ren).push sn n1 (fun x hx=>hdc x (.inr (.inl hx))) fun x hx=>tg x (.inl hx);have bg:=bg _ _ lg hgu (fun s hs=>hnm s (.inr (.inr (.inr (.inr (.inl hs)))))) (fun s hs=>hdc s (.inr (.inr (.inr (.inr (.inl hs)))))) Fg;dsimp only at bg;have em:(m && !decide (old∈sn\/rep.name=old))=(m && !decide (old∈sn)):=by
    congr 2;rw[decide_eq_decide];exact or_iff_left hrn
   rw[em];generalize Hw {b'.2 with env:=Cn τ.env sn s.1.own} (Ua old fr (m && !decide (old∈sn)) guards)=g' at bg ⊢;have bm:=bm _ _ bg.ren hpl (fun s hs=>hnm s (.inr (.inr (.inr (.inr (.inr hs)))))) (fun s hs=>hdc s (.inr (.inr (.inr (.inr (.inr hs)))))) Fm;generalize Gv g'.2 (Rl old fr (m && !decide (old∈sn)) l)=q' at bm ⊢;refine⟨?_,h.around bm.ren⟩;dsimp only;rw[ba.eq,bb.eq,bg.eq,bm.eq]
  ·rw[Af hk]at hF ⊢;rw[Af hk];have hz:=hsp hk;simp only[sp0,Sp.mk.injEq]at hz;obtain⟨rfl,rfl,rfl,rfl,rfl,rfl,rfl⟩:=hz;have er:(rpR old fr m rep).name=rep.name:=rfl;rw[er];have gg:=Ji guards {a.2 with env:=Cn σ.env (if rep.name=ByteArray.empty then [] else [rep.name]) a.1.own};have bg:=fun m=>md0 h0 guards m {a.2 with env:=Cn σ.env (if rep.name=ByteArray.empty then [] else [rep.name]) a.1.own};generalize Hw {a.2 with env:=Cn σ.env (if rep.name=ByteArray.empty then [] else [rep.name]) a.1.own} guards=g at gg bg hF ⊢;have gm:=Iu l g.2;have bm:=fun m=>kd5 h0 l m g.2;generalize Gv g.2 l=q at gm bm hF ⊢;have Fm:ka4 fr q.2:=hF;have Fg:=gm.Nn Fm;have Fa:ka4 fr a.2:=gg.Nn Fg;obtain⟨ba,n1,tg⟩:=bh Fa;rw[ba.eq];have lg:=(h.around ba.ren).push (if rep.name=ByteArray.empty then [] else [rep.name]) n1 (fun x hx=>hdc x (.inl hx)) fun x hx=>(by rw[tg x hx];exact⟨fun h=>(by cases h),fun h=>(by cases h)⟩);have em:(m && !decide (old∈([]:List ByteArray)\/rep.name=old))=(m && !decide (old∈(if rep.name=ByteArray.empty then [] else [rep.name]))):=by
    congr 2;rw[decide_eq_decide];by_cases hr:rep.name=ByteArray.empty
    ·rw[Ae hr,hr];simp[Ne.symm h0]
    ·rw[Af hr];simp[eq_comm]
   rw[em];have bg:=bg _ _ lg hgu (fun s hs=>hnm s (.inr (.inr (.inr (.inr (.inl hs)))))) (fun s hs=>hdc s (.inr (.inr (.inr (.inr (.inl hs)))))) Fg;dsimp only at bg;generalize Hw {a'.2 with env:=Cn τ.env (if rep.name=ByteArray.empty then [] else [rep.name]) a.1.own} (Ua old fr (m && !decide (old∈(if rep.name=ByteArray.empty then [] else [rep.name]))) guards)=g' at bg ⊢;have bm:=bm _ _ bg.ren hpl (fun s hs=>hnm s (.inr (.inr (.inr (.inr (.inr hs)))))) (fun s hs=>hdc s (.inr (.inr (.inr (.inr (.inr hs)))))) Fm;generalize Gv g'.2 (Rl old fr (m && !decide (old∈(if rep.name=ByteArray.empty then [] else [rep.name]))) l)=q' at bm ⊢;refine⟨?_,h.around bm.ren⟩;dsimp only;rw[bg.eq,bm.eq,qy3];simp[Rl,Io]
theorem kd5 (h0:old≠ByteArray.empty):∀ (l:List Pr) (m:Bool) (σ τ:W),Ren old fr m σ τ->Qu l->(∀ s∈Fx l,s≠old/\s≠fr)->(∀ s∈Dr l,s≠fr)->ka4 fr (Gv σ l).2->Alike old fr m (Gv σ l) (Gv τ (Rl old fr m l))
 |[],m,_,_,h,_,_,_,_=>by
  have:Rl old fr m []=[]:=by unfold Rl;split<;>simp[Io]
  rw[this];simp only[Gv];exact⟨rfl,h⟩
 |e::l,m,σ,τ,h,hok,hnm,hdc,hF=>by
  have e1:Rl old fr m (e::l)=rpP old fr m e::Rl old fr m l:=by unfold Rl rpP;split<;>simp[Io]
  rw[e1];simp only[Qu]at hok;simp only[Fx,Bu]at hnm;simp only[Dr,Bu]at hdc;simp only[Gv]at hF ⊢;have h1:=qv2 h0 e m σ τ h hok.1 (fun s hs=>hnm s (.inl hs)) (fun s hs=>hdc s (.inl hs)) ((Iu l _).Nn hF);have h2:=kd5 h0 l m _ _ h1.ren hok.2 (fun s hs=>hnm s (.inr hs)) (fun s hs=>hdc s (.inr hs)) hF;exact⟨by rw[h1.eq,h2.eq],h2.ren⟩
theorem ri1 (h0:old≠ByteArray.empty):∀ (p:Gu) (m:Bool) (σ τ:W),Ren old fr m σ τ->Xh p->(∀ s∈Rm p,s≠old/\s≠fr)->(∀ s∈Qn p,s≠fr)->ka4 fr (Jc σ p).2->Alike old fr m (Jc σ p) (Jc τ (rpG old fr m p))
 |.mk kind name cond chan targets values time body,m,σ,τ,h,hok,hnm,hdc,hF=>by
  have e1:rpG old fr m (.mk kind name cond chan targets values time body)=.mk kind name (rpE old fr m cond) (rpE old fr m chan) (jr7 old fr m targets) (jr7 old fr m values) (rpE old fr m time) (Rl old fr m body):=by
   unfold rpG rpE jr7 Rl;cases m<;>simp[Ra]
  rw[e1];simp only[Xh]at hok;simp only[Rm,Bf]at hnm;simp only[Qn]at hdc;simp only[Jc]at hF ⊢;have h1:=h.ghead cond chan targets values time ((Iu body _).Nn hF);have h2:=kd5 h0 body m _ _ h1.ren hok (fun s hs=>hnm s (.inr hs)) hdc hF;exact⟨by rw[h1.eq,h2.eq],h2.ren⟩
theorem md0 (h0:old≠ByteArray.empty):∀ (l:List Gu) (m:Bool) (σ τ:W),Ren old fr m σ τ->Sw l->(∀ s∈Gj l,s≠old/\s≠fr)->(∀ s∈Gf l,s≠fr)->ka4 fr (Hw σ l).2->Alike old fr m (Hw σ l) (Hw τ (Ua old fr m l))
 |[],m,_,_,h,_,_,_,_=>by
  have:Ua old fr m []=[]:=by unfold Ua;split<;>simp[Jd]
  rw[this];simp only[Hw];exact⟨rfl,h⟩
 |e::l,m,σ,τ,h,hok,hnm,hdc,hF=>by
  have e1:Ua old fr m (e::l)=rpG old fr m e::Ua old fr m l:=by unfold Ua rpG;split<;>simp[Jd]
  rw[e1];simp only[Sw]at hok;simp only[Gj,Bu]at hnm;simp only[Gf,Bu]at hdc;simp only[Hw]at hF ⊢;have h1:=ri1 h0 e m σ τ h hok.1 (fun s hs=>hnm s (.inl hs)) (fun s hs=>hdc s (.inl hs)) ((Ji l _).Nn hF);have h2:=md0 h0 l m _ _ h1.ren hok.2 (fun s hs=>hnm s (.inr hs)) (fun s hs=>hdc s (.inr hs)) hF;exact⟨by rw[h1.eq,h2.eq],h2.ren⟩
end
end Sc
end
end Go.Proofs.YtdopmfifmgkmoaaGreatDoor
