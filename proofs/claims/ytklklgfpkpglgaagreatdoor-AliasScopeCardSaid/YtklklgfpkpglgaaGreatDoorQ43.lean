/- Parts. -/
import Derived.Test.YtklklgfpkpglgaaGreatDoorRows
import Derived.ProofKit
import Derived.OpenShut
import Derived.ShutString
import Derived.ChangeOld
import Derived.Below
import Derived.Deep.Slices
import Derived.Test.YtklklgfpkpglgaaGreatDoorQ22
import Derived.LaidMore
import Derived.Lay
import Derived.Deep.Strs
import Derived.Shelf.Vars
import Derived.HandedShaped
import Derived.Stop.Joined
set_option linter.all false
set_option maxRecDepth 100000
set_option maxHeartbeats 0
namespace Go.Proofs.YtklklgfpkpglgaaGreatDoor
open Go.RowKit Go.Proofs.Tryz Lx
section
open Go.ChangeShapes Go.WideShapes Go.ChangeAt Go.RowKit
theorem rh7 {w:World}{x:Addr}{j:Nat}{v:Value}(h:w.cell? (x.add j)=some v):(x.add j).spot=none:=by
 cases hs:(x.add j).spot with
 |none=>rfl
 |some q=>
  unfold World.cell? at h;split at h
  ·simp[hs]at h
  ·cases h
theorem vi1 {w:World}{x:Addr}{j:Nat}{v:Value}(h:w.cell? (x.add j)=some v)(hx:x.spot=none):w.cell? ⟨x.block,x.off+j,none⟩=some v:=by
 have e:x.add j=⟨x.block,x.off+j,none⟩:=by
  unfold Addr.add;split
  ·rename_i h0;subst h0;cases x;simp_all
  ·rfl
 rw[<-e];exact h
theorem mp1 {w:World}{x:Addr}{n c size:Nat}{xs:List Value}(h:∀ j v,xs[j]? =some v->w.cell? (x.add j)=some v)(hl:xs.length=n * size)(hc:n<=c)(hm:c<=maxLen):
 Sl w w.heap.size (some x) n c size xs:=by
 refine⟨hl,?_,hc,hm,λh=>by cases h⟩;intro j v hv;have h0:∃ u,xs[0]? =some u:=by
  cases xs with
  |nil=>cases hv
  |cons u us=>exact⟨u,rfl⟩
 obtain⟨u,hu⟩:=h0;have hx:x.spot=none:=by
  have:=rh7 (h 0 u hu);unfold Addr.add at this;simpa using this
 have hcell:=vi1 (h j v hv) hx;refine⟨x.block,x.off,?_,World.block_lt_of_cell? w ⟨x.block,x.off+j,none⟩ hcell,hcell⟩;obtain⟨xb,xo,xs'⟩:=x;obtain rfl:xs'=none:=hx;rfl
def NoM:Nat->Nat->Prop:=λ_ _=>False
mutual
def dsz:D->Nat
 |.list _ xs=>Ow xs+1
 |.agg cs=>Ow cs
 |_=>1
def Ow:List D->Nat
 |[]=>0
 |x::xs=>dsz x+Ow xs
end
theorem mv3:∀ a b:List D,Ow (a++b)=Ow a+Ow b
 |[],b=>by simp[Ow]
 |x::a,b=>by simp only[Ac,Ow,mv3 a b];omega
def Kk (P:Program)(fuel:Nat)(t:TypeId)(G:List D->Prop):Prop:=
 ∀ (H:Type) (enc:TypeId × Value->H) (w:World) (base:Nat) (spare:Nat->Bool) (held:Bool) (cs:List Value) (x:DataW H × List MemPlace),
   DataW.trod enc P w base spare held fuel t cs=some x->∃ ds,G ds/\Dz w NoM ds cs/\Ow ds<=Rows.uptoBulk x.1
def Opn (P:Program)(t:TypeId)(G:List D->Prop):Prop:=∀ fuel,Kk P fuel t G
theorem Opn.at {P:Program}{t:TypeId}{G:List D->Prop}(h:Opn P t G)(fuel:Nat):Kk P fuel t G:=h fuel
theorem Kk.mono {P:Program}{n:Nat}{t:TypeId}{G G':List D->Prop}(h:Kk P n t G)(hg:∀ ds,G ds->G' ds):Kk P n t G':=λH enc w b s hd cs x hx=>by
 obtain⟨ds,h1,h2⟩:=h H enc w b s hd cs x hx;exact⟨ds,hg _ h1,h2⟩
theorem Opn.mono {P:Program}{t:TypeId}{G G':List D->Prop}(h:Opn P t G)(hg:∀ ds,G ds->G' ds):Opn P t G':=λn=>(h n).mono hg
theorem Kk.zero {P:Program}{t:TypeId}{G:List D->Prop}:Kk P 0 t G:=λH enc w b s hd cs x hx=>by simp[DataW.trod]at hx
theorem Opn.all {P:Program}{t:TypeId}{G:List D->Prop}(h:∀ n,Kk P n t G):Opn P t G:=h
theorem kz0 {H:Type}(d:DataW H):1<=Rows.uptoBulk d:=by
 cases d with
 |lit l=>cases l<;>simp[Rows.uptoBulk]
 |_=>simp[Rows.uptoBulk]
theorem Dz.single {w:World}{M:Nat->Nat->Prop}{x:D}{v:Value}(h1:v.oneCell'=true)(h:Gv w M x v):Dz w M [x] [v]:=⟨v,[],rfl,h1,h,rfl⟩
theorem jh4 {P:Program}{t:TypeId}{k:IntKind}(ht:P.underlying t=some (.int k)):Opn P t (λds=>∃ n,ds=[.int k n]/\(Lit.int k n).wf=true):=λf H enc w b s hd cs x hx=>by
 obtain⟨n,rfl,_,hw⟩:=DataW.trod_int ht hx;exact⟨_,⟨n,rfl,hw⟩,Dz.single rfl rfl,kz0 _⟩
theorem mv4 {P:Program}{t:TypeId}(ht:P.underlying t=some .bool):Opn P t (λds=>∃ b,ds=[.bool b]):=λf H enc w b s hd cs x hx=>by
 obtain⟨n,rfl,_⟩:=DataW.trod_bool ht hx;exact⟨_,⟨n,rfl⟩,Dz.single rfl rfl,kz0 _⟩
theorem je3 {P:Program}{t:TypeId}(ht:P.underlying t=some .string):Opn P t (λds=>∃ s:ByteArray,ds=[.str s]/\s.size<=maxLen):=λf H enc w b s hd cs x hx=>by
 obtain⟨n,rfl,_,hm⟩:=DataW.trod_string ht hx;exact⟨_,⟨n,rfl,hm⟩,Dz.single rfl rfl,kz0 _⟩
theorem mi0 {α:Type}{n:Nat}{p:Nat->α->Prop}(h:∀ i,i<n->∃ x,p i x):∃ l:List α,l.length=n/\∀ i (hi:i<l.length),p i l[i]:=by
 induction n with
 |zero=>exact⟨[],rfl,λi hi=>absurd hi (Nat.not_lt_zero _)⟩
 |succ n ih=>
  obtain⟨l,hl,hp⟩:=ih (λi hi=>h i (by omega));obtain⟨x,hx⟩:=h n (by omega);refine⟨l++[x],by simp[hl],λi hi=>?_⟩;by_cases hin:i<l.length
  ·rw[List.getElem_append_left hin];exact hp i hin
  ·obtain rfl:i=n:=by simp at hi;omega
   rw[List.getElem_append_right (by omega)];simpa [hl]using hx
def qq8 (one:Bool)(cs:List Value):Value:=match one,cs with
 |true,[v]=>v
 |_,_=>.agg cs.toArray
def kq5 (one:Bool)(ds:List D):D:=match one,ds with
 |true,[d]=>d
 |_,_=>.agg ds
theorem rx7 {w:World}{M:Nat->Nat->Prop}{one:Bool}{ds:List D}{cs:List Value}(h:Dz w M ds cs)(h1:one=true->ds.length=1):
 Gv w M (kq5 one ds) (qq8 one cs)/\(qq8 one cs).cells.toList=cs:=by
 have hl:=h.length;cases one with
 |false=>
  refine⟨⟨cs,rfl,h⟩,?_⟩;simp[qq8,Value.cells]
 |true=>
  have h1:=h1 rfl;obtain⟨d,rfl⟩:=List.length_eq_one_iff.1 h1;obtain⟨v,rfl⟩:=List.length_eq_one_iff.1 (hl.trans h1);obtain⟨_,_,e,h2,h3,_⟩:=h;simp at e;obtain⟨rfl,rfl⟩:=e;refine⟨h3,?_⟩;simp only[qq8];cases v<;>simp_all [Value.cells,Value.oneCell']
theorem mv5 {w:World}{M:Nat->Nat->Prop}{one:Bool}{sz:Nat}:∀ (xs:List (List D)) (ys:List (List Value)),xs.length=ys.length->(∀ i (h:i<xs.length) (k:i<ys.length),Dz w M xs[i] ys[i]/\ys[i].length=sz)->(one=true->sz=1)->
 Gb w M sz (xs.map (kq5 one)) ys.flatten
 |[],[],_,_,_=>rfl
 |x::xs,y::ys,hl,h,h1=>by
  obtain⟨h2,h3⟩:=h 0 (by simp) (by simp);simp at h2 h3;obtain⟨h4,h5⟩:=rx7 (one:=one) h2 (λe=>by rw[<-h2.length,h3,h1 e]);refine⟨qq8 one y,ys.flatten,by rw[h5];rfl,?_,h4,mv5 xs ys (by simpa using hl) (λi a b=>?_) h1⟩
  ·rw[<-Array.length_toList,h5,h3]
  ·have:=h (i+1) (by simpa using a) (by simpa using b);simpa using this
theorem rx8 {one:Bool}{ds:List D}(h1:one=true->ds.length=1):dsz (kq5 one ds)=Ow ds:=by
 cases one with
 |false=>simp[kq5,dsz]
 |true=>
  obtain⟨d,rfl⟩:=List.length_eq_one_iff.1 (h1 rfl);simp[Ow,kq5]
theorem mv6 {H:Type}{one:Bool}:∀ {l:List (List D)} {xs:List (DataW H)},l.length=xs.length->(∀ x∈l,one=true->x.length=1)->(∀ (i:Nat) x y,l[i]? =some x->xs[i]? =some y->Ow x<=Rows.uptoBulk y)->Ow (l.map (kq5 one))<=Rows.uptoBulkAll xs
 |[],[],_,_,_=>Ap _
 |x::l,y::xs,h,h1,k=>by
  have h2:=k 0 x y rfl rfl;have h3:=mv6 (l:=l) (xs:=xs) (by simpa using h) (λz hz=>h1 z (Ax _ hz)) (λi a b ha hb=>k (i+1) a b ha hb);rw[<-rx8 (one:=one) (h1 x Aw)]at h2;simp only[List.map_cons,Ow,Rows.uptoBulkAll];omega
theorem jk7 {P:Program}{fuel:Nat}{t e:TypeId}{G:List D->Prop}(one:Bool)(sz:Nat)(ht:P.underlying t=some (.slice e))(hc:P.cellsOf e=sz)(h1:one=true->sz=1)(he:∀ n,n<fuel->Kk P n e G):
 Kk P fuel t (λds=>∃ xs:List (List D),ds=[.list sz (xs.map (kq5 one))]/\(∀ x∈xs,G x/\x.length=sz)/\xs.length<=maxLen):=λH enc w b s hd cs x hx=>by
 subst hc;rcases DataW.trod_slice ht hx with ⟨rfl,rfl⟩|⟨p,n,c,elems,rest,f',hfu,rfl,rfl,_,hl,hm,hel1,hel,_,_⟩
 ·refine⟨_,⟨[],rfl,by simp,by simp⟩,Dz.single rfl ⟨none,0,[],rfl,Ap _,Ak _,λ_=>rfl,rfl,λj y hj=>by simp at hj⟩,by simp[Ow,dsz,Rows.uptoBulk]⟩
 ·have hi:∀ i,i<n->∃ cs' y,elems[i]? =some y/\w.cells? b (p.add (i * P.cellsOf e)) (P.cellsOf e)=some cs'/\DataW.trod enc P w b s hd f' e cs'=some y:=λi hin=>by
   have h2:=hel i hin;rw[Ar (by omega)]at h2;obtain⟨cs',h3,h4⟩:=Option.bind_eq_some_iff.1 h2;exact⟨cs',_,Ar (by omega),h3,h4⟩
  obtain⟨l,hlen,hp⟩:=mi0 (n:=n) (p:=λi (y:List D × List Value)=>(∀ z,elems[i]? =some z->Ow y.1<=Rows.uptoBulk z.1)/\G y.1/\Dz w NoM y.1 y.2/\y.2.length=P.cellsOf e/\∀ j v,y.2[j]? =some v->w.cell? (p.add (i * P.cellsOf e+j))=some v) (λi hin=>by
   obtain⟨cs',y,hy,h2,h3⟩:=hi i (by omega);obtain⟨ds,h4,h5,h6⟩:=he f' (by omega) H enc w b s hd cs' _ h3;obtain⟨_,hcl,hat⟩:=World.cells?_some h2;refine⟨(ds,cs'),λz hz=>by rw[hy]at hz;cases hz;exact h6,h4,h5,hcl,λj v hv=>?_⟩;have hj:j<P.cellsOf e:=by rw[<-hcl];exact(Ay.1 hv).1
   rw[<-Go.Deep.add_add,hat j hj,hv])
  have hflat:∀ (l:List (List D × List Value)) (o:Nat),(∀ i (h:i<l.length),l[i].2.length=P.cellsOf e/\∀ j v,l[i].2[j]? =some v->w.cell? (p.add ((o+i) * P.cellsOf e+j))=some v)->
   ∀ j v,(l.map (·.2)).flatten[j]? =some v->w.cell? (p.add (o * P.cellsOf e+j))=some v:=by
   intro l
   induction l with
   |nil=>intro o _ j v hv;simp at hv
   |cons y l ih=>
    intro o h j v hv;obtain⟨h2,h3⟩:=h 0 (by simp);simp at h2 h3;rw[List.map_cons,List.flatten_cons]at hv;by_cases hj:j<y.2.length
    ·rw[En hj]at hv;exact h3 j v hv
    ·rw[Fg (by omega)]at hv;have:=ih (o+1) (λi hi=>by have:=h (i+1) (by simpa using hi);simpa [Nat.add_comm,Nat.add_left_comm]using this) _ v hv;rw[show(o+1) * P.cellsOf e+(j - y.2.length)=o * P.cellsOf e+j by rw[Fa,h2];omega]at this;exact this
  have hs:Sl w w.heap.size (some p) n c (P.cellsOf e) (l.map (·.2)).flatten:=by
   refine mp1 (λj v hv=>?_) ?_ hl hm
   ·have:=hflat l 0 (λi hi=>⟨(hp i hi).2.2.2.1,λj v hv=>by simpa using (hp i hi).2.2.2.2 j v hv⟩) j v hv;simpa using this
   ·have:∀ (l:List (List D × List Value)),(∀ i (h:i<l.length),l[i].2.length=P.cellsOf e)->(l.map (·.2)).flatten.length=l.length * P.cellsOf e:=by
     intro l
     induction l with
     |nil=>intro _;simp
     |cons y l ih=>
      intro h;have h2:=h 0 (by simp);simp at h2;have:=ih (λi hi=>h (i+1) (by simpa using hi));simp only[List.map_cons,List.flatten_cons,Ag,Aj,h2,this,Fa];omega
    rw[this l (λi hi=>(hp i hi).2.2.2.1),hlen]
  refine⟨_,⟨l.map (·.1),rfl,λx hx=>?_,by simp[hlen];omega⟩,Dz.single rfl ⟨some p,c,(l.map (·.2)).flatten,by simp[hlen],by simp[hlen];omega,hm,(λh=>by cases h),mv5 _ _ (by simp) (λi a b=>?_) h1,λj y hj=>?_⟩,?_⟩
  ·obtain⟨y,hy,rfl⟩:=Br.1 hx;obtain⟨i,hi',rfl⟩:=Ev.1 hy;obtain⟨_,h2,h3,h4,_⟩:=hp i hi';exact⟨h2,by rw[<-h3.length,h4]⟩
  ·simp at a b;obtain⟨_,h2,h3,h4,_⟩:=hp i a;simpa using ⟨h3,h4⟩
  ·obtain⟨b,o,e1,e2,e3⟩:=hs.rd j y hj;exact⟨b,o,e1,λh=>h.elim,e3⟩
  ·have h9:=mv6 (H:=H) (one:=one) (l:=l.map (·.1)) (xs:=elems.map (·.1)) (by simp[hlen,hel1]) (λx hx h=>by
    obtain⟨y,hy,rfl⟩:=Br.1 hx;obtain⟨i,hi',rfl⟩:=Ev.1 hy;obtain⟨_,_,h3,h4,_⟩:=hp i hi';rw[<-h3.length,h4,h1 h]) (λi x y hx hy=>by
    rw[Bp]at hx hy;obtain⟨u,hu,rfl⟩:=Fi.1 hx;obtain⟨z,hz,rfl⟩:=Fi.1 hy;obtain⟨hi',rfl⟩:=Ay.1 hu;exact(hp i hi').1 z hz)
   simp only[Ow,dsz,Rows.uptoBulk];omega
theorem jl9 {P:Program}{t e:TypeId}{G:List D->Prop}(one:Bool)(sz:Nat)(ht:P.underlying t=some (.slice e))(hc:P.cellsOf e=sz)(h1:one=true->sz=1)(he:Opn P e G):
 Opn P t (λds=>∃ xs:List (List D),ds=[.list sz (xs.map (kq5 one))]/\(∀ x∈xs,G x/\x.length=sz)/\xs.length<=maxLen):=λ_=>jk7 one sz ht hc h1 λn _=>he n
def vo8:List (List D->Prop)->List D->Prop
 |[],ds=>ds=[]
 |G::Gs,ds=>∃ a b,ds=a++b/\G a/\vo8 Gs b
def jx5 (P:Program):Nat->List Field->Bool
 |_,[]=>true
 |o,f::fs=>f.offset == o && jx5 P (o+P.cellsOf f.type) fs
theorem Dz.app {w:World}{M:Nat->Nat->Prop}:∀ {a b:List D} {u v:List Value},Dz w M a u->Dz w M b v->Dz w M (a++b) (u++v)
 |[],_,_,_,h,k=>by simp only[Dz]at h;subst h;exact k
 |x::a,b,u,v,h,k=>by
  obtain⟨y,r,rfl,h2,h3,h4⟩:=h;exact⟨y,r++v,rfl,h2,h3,h4.app k⟩
inductive Oj (P:Program)(n:Nat):List Field->List (List D->Prop)->Prop
 |nil:Oj P n [] []
 |cons {f fs G Gs}:Kk P n f.type G->Oj P n fs Gs->Oj P n (f::fs) (G::Gs)
inductive Rt (P:Program):List Field->List (List D->Prop)->Prop
 |nil:Rt P [] []
 |cons {f fs G Gs}:Opn P f.type G->Rt P fs Gs->Rt P (f::fs) (G::Gs)
theorem Rt.at {P:Program}(n:Nat):∀ {fs:List Field} {Gs:List (List D->Prop)},Rt P fs Gs->Oj P n fs Gs
 |_,_,.nil=>.nil
 |_,_,.cons h hs=>.cons (h n) (hs.at n)
theorem jx6 {P:Program}{H:Type}{enc:TypeId × Value->H}{w:World}{base:Nat}{spare:Nat->Bool}{held:Bool}{fuel:Nat}{cs:List Value}:∀ {fs:List Field} {Gs:List (List D->Prop)} {o:Nat} {ys:List (DataW H × List MemPlace)},
 Oj P fuel fs Gs->jx5 P o fs=true->ys.length=fs.length->(∀ (i:Nat) f y,fs[i]? =some f->ys[i]? =some y->DataW.trod enc P w base spare held fuel f.type ((cs.drop f.offset).take (P.cellsOf f.type))=some y)->
 ∃ ds,vo8 Gs ds/\Dz w NoM ds ((cs.drop o).take (fs.map λf=>P.cellsOf f.type).sum)/\Ow ds<=Rows.uptoBulkAll (ys.map (·.1))
 |_,_,o,[],.nil,_,_,_=>⟨[],rfl,by simp[Dz],Ap _⟩
 |_,_,o,y::ys,.cons (f:=f) (fs:=fs) h hs,hl,hn,hx=>by
  simp only[jx5,Aa,Ed]at hl;obtain⟨ds,h2,h3,h6⟩:=h H enc w base spare held _ y (hx 0 f y rfl rfl);obtain⟨es,h4,h5,h7⟩:=jx6 (cs:=cs) (ys:=ys) hs hl.2 (by simpa using hn) (λi g z hg hz=>hx (i+1) g z hg hz);refine⟨ds++es,⟨ds,es,rfl,h2,h4⟩,?_,?_⟩
  ·rw[hl.1]at h3;have:=h3.app h5;rw[List.map_cons,List.sum_cons,List.take_add,List.drop_drop];exact this
  ·rw[mv3,List.map_cons,Rows.uptoBulkAll];omega
theorem jf0 {P:Program}{fuel:Nat}{t:TypeId}{fs:Array Field}{Gs:List (List D->Prop)}(ht:P.underlying t=some (.struct fs))(hs:∀ n,n<fuel->Oj P n fs.toList Gs)(hl:jx5 P 0 fs.toList=true)(hc:(fs.toList.map λf=>P.cellsOf f.type).sum=P.cellsOf t):
 Kk P fuel t (vo8 Gs):=λH enc w b s hd cs x hx=>by
 obtain⟨ys,n,hn,rfl,hlen,hys,hf⟩:=DataW.trod_struct ht hx;obtain⟨ds,h1,h2,h3⟩:=jx6 (cs:=cs) (enc:=enc) (w:=w) (base:=b) (spare:=s) (held:=hd) (fuel:=n) (ys:=ys) (hs n (by omega)) hl (by simpa using hys) (λi g y hg hy=>by
  rw[<-hy];exact hf i g (by simpa using hg))
 refine⟨ds,h1,?_,?_⟩
 ·rw[hc,<-hlen]at h2;simpa using h2
 ·simp only[Rows.uptoBulk];omega
theorem jm0 {P:Program}{t:TypeId}{fs:Array Field}{Gs:List (List D->Prop)}(ht:P.underlying t=some (.struct fs))(hs:Rt P fs.toList Gs)(hl:jx5 P 0 fs.toList=true)(hc:(fs.toList.map λf=>P.cellsOf f.type).sum=P.cellsOf t):
 Opn P t (vo8 Gs):=λ_=>jf0 ht (λn _=>hs.at n) hl hc
end
section
open Go.ChangeShapes Go.WideShapes Go.ChangeAt Go.RowKit
theorem jl5 {α:Type}{G:List D->Prop}{f:α->D}{Q:α->Prop}{one:Bool}{sz:Nat}(hf:∀ ds,G ds->∃ a,kq5 one ds=f a/\Q a):∀ xs:List (List D),(∀ x∈xs,G x/\x.length=sz)->∃ l:List α,xs.map (kq5 one)=l.map f/\∀ a∈l,Q a
 |[],_=>⟨[],rfl,λa h=>by cases h⟩
 |x::xs,h=>by
  obtain⟨a,ha,hq⟩:=hf x (h x (by simp)).1;obtain⟨l,hl,hl2⟩:=jl5 hf xs (λy hy=>h y (by simp[hy]));refine⟨a::l,by rw[List.map_cons,List.map_cons,hl,<-ha],λb hb=>?_⟩;rcases Bc.1 hb with rfl|hb
  ·exact hq
  ·exact hl2 b hb
theorem vi2 {n:Int}(h:(Lit.int .u8 n).wf=true):0<=n/\n<=255:=by simpa [Lit.wf,IntKind.min,IntKind.max,IntKind.signed,IntKind.bits]using h
def exL (e:Ex):List D:=[.int .u8 e.kind,.int .u8 e.op,.int .u8 e.ty,.int .i32 e.n,.str e.s,.list 6 (e.l.map dEx)]
theorem rp3:∀ N fuel,fuel<=N->Kk prog fuel 28 (λds=>∃ e:Ex,ds=exL e)
 |0,fuel,h=>by
  obtain rfl:fuel=0:=by omega
  exact Kk.zero
 |N+1,fuel,h=>
  (jf0 (Gs:=[_,_,_,_,_,_]) Tryz.underlying28 (λm hm=>.cons ((jh4 Tryz.underlying23).at m) (.cons ((jh4 Tryz.underlying24).at m) (.cons ((jh4 Tryz.underlying25).at m) (.cons ((jh4 Tryz.underlying21).at m) (.cons ((je3 Tryz.underlying9).at m)
    (.cons (jk7 false 6 Tryz.underlying26 (by kernel_rfl) (λh=>by cases h) λk hk=>rp3 N k (by omega)) .nil)))))) (by kernel_rfl) (by kernel_rfl)).mono λds h=>by
    obtain⟨_,_,rfl,⟨k,rfl,_⟩,_,_,rfl,⟨op,rfl,hop⟩,_,_,rfl,⟨ty,rfl,_⟩,_,_,rfl,⟨n,rfl,_⟩,_,_,rfl,⟨s,rfl,_⟩,_,_,rfl,⟨xs,rfl,hxs,_⟩,rfl⟩:=h;obtain⟨l,hl,_⟩:=jl5 (f:=dEx) (Q:=λ_=>True) (one:=false) (λds ⟨e,he⟩=>⟨e,by rw[he,r8];rfl,trivial⟩) xs hxs;have hb:=vi2 hop;refine⟨.mk k (UInt8.ofNat op.toNat) ty n s l,?_⟩;have e1:(Ex.mk k (UInt8.ofNat op.toNat) ty n s l).op=op:=by
     simp only[Ex.op,UInt8.toNat_ofNat'];omega
    simp only[exL,e1,Ex.kind,Ex.ty,Ex.n,Ex.s,Ex.l,hl];rfl
theorem jk8:Opn prog 28 (λds=>∃ e:Ex,ds=exL e):=Opn.all λn=>rp3 n n (Ap _)
theorem jx7:Opn prog 26 (λds=>∃ l:List Ex,ds=[.list 6 (l.map dEx)]):=
 (jl9 false 6 Tryz.underlying26 (by kernel_rfl) (λh=>by cases h) jk8).mono λds ⟨xs,e,h,_⟩=>by
   obtain⟨l,hl,_⟩:=jl5 (f:=dEx) (Q:=λ_=>True) (one:=false) (λds ⟨e,he⟩=>⟨e,by rw[he,r8];rfl,trivial⟩) xs h;exact⟨l,by rw[e,hl]⟩
theorem rh8:Opn prog 37 (λds=>∃ l:List ByteArray,ds=[.list 1 (l.map .str)]):=
 (jl9 true 1 Tryz.underlying37 (by kernel_rfl) (λ_=>rfl) (je3 Tryz.underlying9)).mono λds ⟨xs,e,h,_⟩=>by
   obtain⟨l,hl,_⟩:=jl5 (f:=D.str) (Q:=λ_=>True) (one:=true) (λds ⟨s,he,_⟩=>⟨s,by rw[he];rfl,trivial⟩) xs h;exact⟨l,by rw[e,hl]⟩
theorem rh9:Opn prog 33 (λds=>∃ l:List Int,ds=[.list 1 (l.map (.int .i64))]):=
 (jl9 true 1 Tryz.underlying33 (by kernel_rfl) (λ_=>rfl) (jh4 Tryz.underlying3)).mono λds ⟨xs,e,h,_⟩=>by
   obtain⟨l,hl,_⟩:=jl5 (f:=D.int .i64) (Q:=λ_=>True) (one:=true) (λds ⟨s,he,_⟩=>⟨s,by rw[he];rfl,trivial⟩) xs h;exact⟨l,by rw[e,hl]⟩
theorem qq9:Opn prog 122 (λds=>∃ l:List Int,ds=[.list 1 (l.map (.int .u8))]):=
 (jl9 true 1 Tryz.underlying122 (by kernel_rfl) (λ_=>rfl) (jh4 Tryz.underlying25)).mono λds ⟨xs,e,h,_⟩=>by
   obtain⟨l,hl,_⟩:=jl5 (f:=D.int .u8) (Q:=λ_=>True) (one:=true) (λds ⟨s,he,_⟩=>⟨s,by rw[he];rfl,trivial⟩) xs h;exact⟨l,by rw[e,hl]⟩
def tyL (t:Ty):List D:=[.int .u8 t.kind,.int .i64 t.dim,.int .u8 t.item,.str t.aN]
theorem rp4:Opn prog 36 (λds=>∃ t:Ty,ds=tyL t):=
 (jm0 (Gs:=[_,_,_,_]) Tryz.underlying36 (.cons (jh4 Tryz.underlying25) (.cons (jh4 Tryz.underlying3) (.cons (jh4 Tryz.underlying25) (.cons (je3 Tryz.underlying9) .nil)))) (by kernel_rfl) (by kernel_rfl)).mono λds h=>by
   obtain⟨_,_,rfl,⟨k,rfl,_⟩,_,_,rfl,⟨d,rfl,_⟩,_,_,rfl,⟨i,rfl,_⟩,_,_,rfl,⟨p,rfl,_⟩,rfl⟩:=h;exact⟨⟨k,d,i,p⟩,rfl⟩
theorem vi3:Opn prog 124 (λds=>∃ v:Va,.agg ds=dVa v):=
 (jm0 (Gs:=[_,_]) Tryz.underlying124 (.cons (je3 Tryz.underlying9) (.cons qq9 .nil)) (by kernel_rfl) (by kernel_rfl)).mono λds h=>by
   obtain⟨_,_,rfl,⟨k,rfl,_⟩,_,_,rfl,⟨d,rfl⟩,rfl⟩:=h;exact⟨⟨k,d⟩,rfl⟩
theorem rx9:Opn prog 38 (λds=>∃ l:List Va,ds=[.list 2 (l.map dVa)]):=
 (jl9 false 2 Tryz.underlying38 (by kernel_rfl) (λh=>by cases h) vi3).mono λds ⟨xs,e,h,_⟩=>by
   obtain⟨l,hl,_⟩:=jl5 (f:=dVa) (Q:=λ_=>True) (one:=false) (λds ⟨s,he⟩=>⟨s,he,trivial⟩) xs h;exact⟨l,by rw[e,hl]⟩
def ptL (p:Pt):List D:=[.bool p.cases,.list 2 (p.l.map dVa)]
theorem vi4:Opn prog 40 (λds=>∃ p:Pt,ds=ptL p):=
 (jm0 (Gs:=[_,_]) Tryz.underlying40 (.cons (mv4 Tryz.underlying4) (.cons rx9 .nil)) (by kernel_rfl) (by kernel_rfl)).mono λds h=>by
   obtain⟨_,_,rfl,⟨k,rfl⟩,_,_,rfl,⟨d,rfl⟩,rfl⟩:=h;exact⟨⟨k,d⟩,rfl⟩
theorem vi5:Opn prog 128 (λds=>∃ f:Fo,.agg ds=dFo f):=
 (jm0 (Gs:=[_,_,_]) Tryz.underlying128 (.cons (mv4 Tryz.underlying4) (.cons rp4 (.cons (je3 Tryz.underlying9) .nil))) (by kernel_rfl) (by kernel_rfl)).mono λds h=>by
   obtain⟨_,_,rfl,⟨k,rfl⟩,_,_,rfl,⟨t,rfl⟩,_,_,rfl,⟨s,rfl,_⟩,rfl⟩:=h;exact⟨⟨k,t,s⟩,rfl⟩
theorem ry0:Opn prog 41 (λds=>∃ l:List Fo,ds=[.list 6 (l.map dFo)]):=
 (jl9 false 6 Tryz.underlying41 (by kernel_rfl) (λh=>by cases h) vi5).mono λds ⟨xs,e,h,_⟩=>by
   obtain⟨l,hl,_⟩:=jl5 (f:=dFo) (Q:=λ_=>True) (one:=false) (λds ⟨s,he⟩=>⟨s,he,trivial⟩) xs h;exact⟨l,by rw[e,hl]⟩
def rpL (r:Rp):List D:=.str r.name::(exL r.base++exL r.count)
theorem vi6:Opn prog 30 (λds=>∃ r:Rp,ds=rpL r):=
 (jm0 (Gs:=[_,_,_]) Tryz.underlying30 (.cons (je3 Tryz.underlying9) (.cons jk8 (.cons jk8 .nil))) (by kernel_rfl) (by kernel_rfl)).mono λds h=>by
   obtain⟨_,_,rfl,⟨s,rfl,_⟩,_,_,rfl,⟨a,rfl⟩,_,_,rfl,⟨b,rfl⟩,rfl⟩:=h;exact⟨⟨s,a,b⟩,rfl⟩
def GPr (ds:List D):Prop:=∃ p:Pr,.agg ds=dPr p/\Lx.kPr p
theorem qr0:∀ {l:List Pr},(∀ p∈l,Lx.kPr p)->Pw l
 |[],_=>by simp[Pw]
 |p::l,h=>by simp only[Pw];exact⟨h p (by simp),qr0 λq hq=>h q (by simp[hq])⟩
theorem qr1:∀ {l:List Gu},(∀ g∈l,0<=g.kind/\Pw g.body)->Ud l
 |[],_=>by simp[Ud]
 |.mk kind name cond av aj values time body::l,h=>by
  simp only[Ud];have:=h _ Aw;exact⟨this.1,this.2,qr1 λq hq=>h q (by simp[hq])⟩
theorem kb3 {fuel:Nat}(hp:∀ m,m<fuel->Kk prog m 45 GPr):Kk prog fuel 32 (λds=>∃ l:List Pr,ds=[.list 42 (l.map dPr)]/\Pw l):=
 (jk7 false 42 Tryz.underlying32 (by kernel_rfl) (λh=>by cases h) hp).mono λds ⟨xs,e,h,_⟩=>by
   obtain⟨l,hl,hq⟩:=jl5 (f:=dPr) (Q:=Lx.kPr) (one:=false) (λds ⟨s,he,hk⟩=>⟨s,he,hk⟩) xs h;exact⟨l,by rw[e,hl],qr0 hq⟩
theorem qr2 {fuel:Nat}(hp:∀ m,m<fuel->Kk prog m 45 GPr):Kk prog fuel 93 (λds=>∃ g:Gu,.agg ds=dGu g/\0<=g.kind/\Pw g.body):=
 (jf0 (Gs:=[_,_,_,_,_,_,_,_]) Tryz.underlying93 (λm hm=>.cons ((jh4 Tryz.underlying91).at m) (.cons ((je3 Tryz.underlying9).at m) (.cons (jk8.at m) (.cons (jk8.at m) (.cons (jx7.at m) (.cons (jx7.at m) (.cons (jk8.at m) (.cons (kb3 λk hk=>hp k (by omega)) .nil)))))))) (by kernel_rfl) (by kernel_rfl)).mono λds h=>by
   obtain⟨_,_,rfl,⟨k,rfl,hk⟩,_,_,rfl,⟨s,rfl,_⟩,_,_,rfl,⟨a,rfl⟩,_,_,rfl,⟨b,rfl⟩,_,_,rfl,⟨c,rfl⟩,_,_,rfl,⟨d,rfl⟩,_,_,rfl,⟨e,rfl⟩,_,_,rfl,⟨l,rfl,hl⟩,rfl⟩:=h;refine⟨.mk k s a b c d e l,?_,(vi2 hk).1,hl⟩;rw[jb7];rfl
theorem qd1 {fuel:Nat}(hp:∀ m,m<fuel->Kk prog m 45 GPr):Kk prog fuel 31 (λds=>∃ l:List Gu,ds=[.list 23 (l.map dGu)]/\Ud l):=
 (jk7 false 23 Tryz.underlying31 (by kernel_rfl) (λh=>by cases h) λm hm=>qr2 λk hk=>hp k (by omega)).mono λds ⟨xs,e,h,_⟩=>by
   obtain⟨l,hl,hq⟩:=jl5 (f:=dGu) (Q:=λg=>0<=g.kind/\Pw g.body) (one:=false) (λds ⟨s,he,hk⟩=>⟨s,he,hk⟩) xs h;exact⟨l,by rw[e,hl],qr1 hq⟩
def spL (s:Sp):List D:=.int .u8 s.kind::(tyL s.type++(.list 1 (s.names.map .str)::(exL s.e++(ptL s.aN++[.list 6 (s.ax.map dFo),.list 42 (s.body.map dPr)]))))
theorem qr3 {fuel:Nat}(hp:∀ m,m<fuel->Kk prog m 45 GPr):Kk prog fuel 43 (λds=>∃ s:Sp,ds=spL s/\Pw s.body):=
 (jf0 (Gs:=[_,_,_,_,_,_,_]) Tryz.underlying43 (λm hm=>.cons ((jh4 Tryz.underlying34).at m) (.cons (rp4.at m) (.cons (rh8.at m) (.cons (jk8.at m) (.cons (vi4.at m) (.cons (ry0.at m) (.cons (kb3 λk hk=>hp k (by omega)) .nil))))))) (by kernel_rfl) (by kernel_rfl)).mono λds h=>by
   obtain⟨_,_,rfl,⟨k,rfl,_⟩,_,_,rfl,⟨t,rfl⟩,_,_,rfl,⟨n,rfl⟩,_,_,rfl,⟨e,rfl⟩,_,_,rfl,⟨p,rfl⟩,_,_,rfl,⟨f,rfl⟩,_,_,rfl,⟨l,rfl,hl⟩,rfl⟩:=h;exact⟨.mk k t n e p f l,rfl,hl⟩
theorem mv7:∀ N fuel,fuel<=N->Kk prog fuel 45 GPr
 |0,fuel,h=>by
  obtain rfl:fuel=0:=by omega
  exact Kk.zero
 |N+1,fuel,h=>
  (jf0 (Gs:=[_,_,_,_,_,_,_,_,_,_]) Tryz.underlying45 (λm hm=>.cons ((jh4 Tryz.underlying22).at m) (.cons ((je3 Tryz.underlying9).at m) (.cons (jk8.at m) (.cons (jx7.at m) (.cons (jx7.at m) (.cons (vi6.at m)
    (.cons (qd1 λk hk=>mv7 N k (by omega)) (.cons (kb3 λk hk=>mv7 N k (by omega)) (.cons (rh9.at m) (.cons (qr3 λk hk=>mv7 N k (by omega)) .nil)))))))))) (by kernel_rfl) (by kernel_rfl)).mono λds h=>by
    obtain⟨_,_,rfl,⟨k,rfl,_⟩,_,_,rfl,⟨s,rfl,_⟩,_,_,rfl,⟨a,rfl⟩,_,_,rfl,⟨b,rfl⟩,_,_,rfl,⟨c,rfl⟩,_,_,rfl,⟨r,rfl⟩,_,_,rfl,⟨g,rfl,hg⟩,_,_,rfl,⟨l,rfl,hl⟩,_,_,rfl,⟨i,rfl⟩,_,_,rfl,⟨p,rfl,hp⟩,rfl⟩:=h;refine⟨.mk k s a b c r g l i p,?_,?_⟩
    ·refine Eq.trans ?_ (congrFun v7 _).symm;rfl
    ·obtain⟨_,_,_,_,_,_,_⟩:=p;simp only[Lx.kPr];exact⟨hg,hl,hp⟩
theorem mp2:Opn prog 45 GPr:=Opn.all λn=>mv7 n n (Ap _)
end
section
open Go.ChangeShapes Go.WideShapes Go.ChangeAt Go.RowKit
theorem kz1 {H:Type}{enc:TypeId × Value->H}{a:Assume}{C:Checked}{os:Os}{f:FuncId}{fn:Func}{s:ChangeSpec}{conds:List PathCond}{apart aD handsOn again:Bool}{X:World->Array Value->Prop}
 (hX:∀ (w w':World) (args:Array Value),w.heap=w'.heap->X w args->X w' args)
 (own:ownKnob C.prog.godebug=none) (started:os.Started) (noInit:C.prog.inits.idxOf? f=none) (hfn:C.prog.funcs[f]? =some fn)
 (witness:∃ (w:World) (tape:Tape) (i:Input),w.os=os/\(w.forCall tape i).Shaped C.prog/\i.vars=[]/\Input.okWide C.prog (w.forCall tape i) .any w.heap.size f i/\
   ((s.pre enc C.prog fn conds apart (w.forCall tape i).memory i.args/\X (w.forCall tape i).memory i.args)/\sizedMet enc C.prog fn (OpenSpec.ofChange s) apart (w.forCall tape i).memory i.args)/\a.holds C.prog (lone (Frame.enter C.prog f i.args .normal) [] (w.forCall tape i)))
 (contract:∀ (W:World) (base:Nat) (args:Array Value) (ds gs:List (DataW H)) (before:List MemPlace),
   (∀ (j:Nat) t v,fn.params[j]? =some t->args[j]? =some v->Value.okWide C.prog W .any base t v)->
   DataW.Whole enc C.prog fn.params.toList s.vars apart W args.toList ds gs before->X W args->W.ShapedOpen C.prog->
   Calls C.prog f args W λe W'=>∃ v,e=.returned v/\s.post enc C.prog fn apart aD handsOn again W args v W'):
 ReturnsInHanded a C os f .any (λw args=>(s.pre enc C.prog fn conds apart w args/\X w args)/\sizedMet enc C.prog fn (OpenSpec.ofChange s) apart w args) (s.post enc C.prog fn apart aD handsOn again):=by
 refine returnsInHanded_of_calls own started noInit witness ?_;intro w tape i _ hsh _ hok hpre hholds;obtain⟨_,_,_,fn',hfn',_,_,_,_,hval⟩:=hok;have e:fn'=fn:=Option.some.inj (hfn'.symm.trans hfn);subst e;obtain⟨⟨⟨ds,gs,before,hw,hc⟩,hx⟩,hz⟩:=hpre;have hw':=DataW.Whole.of_heap (w':=w.forCall tape i) (by rfl) hw;refine(contract (w.forCall tape i) w.heap.size i.args ds gs before hval hw' (hX _ _ _ (by rfl) hx) hsh).mono λe W' ⟨v,he,hp⟩=>?_;subst he;exact ChangeSpec.post_blind hp
def mp3:List (String × DataW Unit):=[("math/bits.deBruijn32tab",Rows.laid_math_bits_deBruijn32tab),("math/bits.deBruijn64tab",Rows.laid_math_bits_deBruijn64tab),("internal/strconv.uint64pow10",Rows.laid_internal_strconv_uint64pow10),("transputer/types.primitive",Rows.laid_transputer_types_primitive),("transputer/syntax.one",Rows.laid_transputer_syntax_one),("transputer/syntax.some",Rows.laid_transputer_syntax_some),("transputer/syntax.all",Rows.laid_transputer_syntax_all)]
set_option maxRecDepth 100000 in
theorem ri0 (os:Os)(args:Array Value):laidMetH prog mp3 ((World.laidAll prog os mp3).forCall (λ_ _=>0) ⟨#[],args,[]⟩).memory:=by
 rw[MakeChecks.laidMetH_plain _ _ _ (by kernel_rfl)];exact laidMet_laidAll _ (by kernel_rfl) (by kernel_rfl)
section
variable {H:Type}{enc:TypeId × Value->H}{P:Program}{w:World}{base:Nat}{spare:Nat->Bool}{held:Bool}{fuel:Nat}
theorem km2 {t:TypeId}{k k':IntKind}{m:Int}{cs:List Value}{q:List MemPlace}(ht:P.underlying t=some (.int k))(h:DataW.trod enc P w base spare held fuel t cs=some (.lit (.int k' m),q)):cs=[.int k' m]:=by
 obtain⟨z,rfl,h2,_⟩:=DataW.trod_int ht h;cases h2;rfl
theorem ry1 {t:TypeId}{s:List UInt8}{cs:List Value}{q:List MemPlace}(ht:P.underlying t=some .string)(h:DataW.trod enc P w base spare held fuel t cs=some (.lit (.string s),q)):cs=[.string ⟨s.toArray⟩]:=by
 obtain⟨z,rfl,h2,_⟩:=DataW.trod_string ht h;simp only[Bh,DataW.lit.injEq,Lit.string.injEq]at h2;obtain⟨rfl,_⟩:=h2;cases z;simp
theorem qr4 {cs:List Value}{o:Nat}{v:Value}(h:(cs.drop o).take 1=[v]):cs[o]? =some v:=by
 have:=congrArg (λl=>l[0]?) h;simpa [Et,Eo]using this
end
section
variable {H:Type}{enc:TypeId × Value->H}{w:World}{base:Nat}{spare:Nat->Bool}{held:Bool}{fuel:Nat}
set_option maxRecDepth 100000 in
theorem kb4 {cs:List Value}{a b:Int}{p:List MemPlace}(h:DataW.trod enc prog w base spare held fuel 176 cs=some (.agg [.lit (.int .i64 a),.lit (.int .i64 b)],p)):cs=[.int .i64 a,.int .i64 b]:=by
 obtain⟨⟨d0,q0⟩,⟨d1,q1⟩,n,hx,hl,h0,h1⟩:=trod_struct2 Tryz.underlying176 h;simp only[Bh,DataW.agg.injEq,List.cons.injEq,and_true]at hx;obtain⟨⟨rfl,rfl⟩,_⟩:=hx;have c0:=qr4 (show(cs.drop 0).take 1=_ from km2 Tryz.underlying3 h0);have c1:=qr4 (show(cs.drop 1).take 1=_ from km2 Tryz.underlying3 h1);have hl2:cs.length=2:=hl.trans (by kernel_rfl)
 match cs,hl2 with
 |[x,y],_=>simp at c0 c1;rw[c0,c1]
set_option maxRecDepth 100000 in
theorem kb5 {cs:List Value}{a:Int}{s:List UInt8}{b:Int}{p:List MemPlace}(h:DataW.trod enc prog w base spare held fuel 252 cs=some (.agg [.lit (.int .u8 a),.lit (.string s),.lit (.int .i64 b)],p)):cs=[.int .u8 a,.string ⟨s.toArray⟩,.int .i64 b]:=by
 obtain⟨⟨d0,q0⟩,⟨d1,q1⟩,⟨d2,q2⟩,n,hx,hl,h0,h1,h2⟩:=Go.Deep.trod_struct3 Tryz.underlying252 h;simp only[Bh,DataW.agg.injEq,List.cons.injEq,and_true]at hx;obtain⟨⟨rfl,rfl,rfl⟩,_⟩:=hx;have c0:=qr4 (show(cs.drop 0).take 1=_ from km2 Tryz.underlying25 h0);have c1:=qr4 (show(cs.drop 1).take 1=_ from ry1 Tryz.underlying9 h1);have c2:=qr4 (show(cs.drop 2).take 1=_ from km2 Tryz.underlying3 h2);have hl2:cs.length=3:=hl.trans (by kernel_rfl)
 match cs,hl2 with
 |[x,y,z],_=>simp at c0 c1 c2;rw[c0,c1,c2]
end
theorem qr5 {H:Type}{enc:TypeId × Value->H}{P:Program}{w:World}{base:Nat}{spare:Nat->Bool}{held:Bool}{fuel:Nat}{t e:TypeId}{n:Nat}{cs:List Value}{ds:List (DataW H)}{p:List MemPlace}{vs:List Value}
 (ht:P.underlying t=some (.array n e)) (hc:P.cellsOf e=1) (hct:P.cellsOf t=n) (h:DataW.trod enc P w base spare held fuel t cs=some (.agg ds,p)) (hl:vs.length=ds.length)
 (hel:∀ (m:Nat) (c:List Value) (d:DataW H) (q:List MemPlace) (v:Value) (i:Nat),ds[i]? =some d->vs[i]? =some v->DataW.trod enc P w base spare held m e c=some (d,q)->c=[v]):cs=vs:=by
 obtain⟨xs,m,rfl,hx,hlen,hxl,hat⟩:=DataW.trod_array ht h;rw[Bh,DataW.agg.injEq]at hx;obtain⟨rfl,_⟩:=hx;rw[hct]at hlen;rw[Ab,hxl]at hl;apply List.ext_getElem (by omega);intro i h1 h2;have h3:=hat i (by omega);rw[hc,Nat.mul_one,Ar (show i<xs.length by omega)]at h3;have h4:=hel m _ xs[i].1 xs[i].2 vs[i] i (by rw[Bp,Ar (show i<xs.length by omega)];rfl) (Ar h2) h3;have h5:=congrArg (λl=>l[0]?) h4;simpa [Et,Eo,Ar h1]using h5
theorem km3 {W:World}{n:String}{g:Nat}{cs:Array Value}{ds:List D}{vs:List Value}(hg:prog.globalNamed n=some g)(hv:W.var? prog n=some cs)(hcs:cs.toList=vs)(hr:Dz W NoM ds vs):Sw W NoM g ds:=by
 unfold World.var? at hv;rw[hg]at hv;simp only[Option.bind_some]at hv;split at hv
 ·rename_i c t f hh;cases hv;refine⟨vs,t,f,?_,λ_ h=>h,hr⟩;rw[hh,<-hcs]
 ·cases hv
theorem jr7 (w:World)(M:Nat->Nat->Prop)(k:IntKind):∀ l:List Int,Dz w M (l.map λz=>D.int k z) (l.map λz=>Value.int k z)
 |[]=>rfl
 |x::l=>⟨_,_,rfl,rfl,rfl,jr7 w M k l⟩
def vr0:List Int:=[1,10,100,1000,10000,100000,1000000,10000000,100000000,1000000000,10000000000,100000000000,1000000000000,10000000000000,100000000000000,1000000000000000,10000000000000000,100000000000000000,1000000000000000000,10000000000000000000]
theorem qr6:(Rows.laid_internal_strconv_uint64pow10:DataW Unit)=.agg (vr0.map λz=>.lit (.int .u64 z)):=by kernel_rfl
set_option maxRecDepth 100000 in
theorem mi1 {W:World}(h:laidMetH prog mp3 W)(hsh:W.ShapedOpen prog):∃ mm,vc8 (glS mm) W NoM:=by
 rw[MakeChecks.laidMetH_plain _ _ _ (by kernel_rfl)]at h;obtain⟨ps,⟨g0,t0,cs0,f0,p0,q0,hg0,ht0,hv0,hd0,⟨g1,t1,cs1,f1,p1,q1,hg1,ht1,hv1,hd1,⟨g2,t2,cs2,f2,p2,q2,hg2,ht2,hv2,hd2,⟨g3,t3,cs3,f3,p3,q3,hg3,ht3,hv3,hd3,⟨g4,t4,cs4,f4,p4,q4,hg4,ht4,hv4,hd4,⟨g5,t5,cs5,f5,p5,q5,hg5,ht5,hv5,hd5,⟨g6,t6,cs6,f6,p6,q6,hg6,ht6,hv6,hd6,_,_⟩,_⟩,_⟩,_⟩,_⟩,_⟩,_⟩,_,_⟩:=h;obtain rfl:=Option.some.inj ((show prog.globalNamed "internal/strconv.uint64pow10"=some 3 by kernel_rfl).symm.trans hg2);obtain rfl:=Option.some.inj ((show prog.globalNamed "transputer/types.primitive"=some 4 by kernel_rfl).symm.trans hg3);obtain rfl:=Option.some.inj ((show prog.globalNamed "transputer/syntax.one"=some 1 by kernel_rfl).symm.trans hg4);obtain rfl:=Option.some.inj ((show prog.globalNamed "transputer/syntax.some"=some 2 by kernel_rfl).symm.trans hg5);obtain rfl:=Option.some.inj ((show prog.globalNamed "transputer/syntax.all"=some 0 by kernel_rfl).symm.trans hg6);obtain rfl:=Option.some.inj ((show(prog.globals[3]?).map (·.type)=some 250 by kernel_rfl).symm.trans ht2);obtain rfl:=Option.some.inj ((show(prog.globals[4]?).map (·.type)=some 253 by kernel_rfl).symm.trans ht3);obtain rfl:=Option.some.inj ((show(prog.globals[1]?).map (·.type)=some 176 by kernel_rfl).symm.trans ht4);obtain rfl:=Option.some.inj ((show(prog.globals[2]?).map (·.type)=some 176 by kernel_rfl).symm.trans ht5);obtain rfl:=Option.some.inj ((show(prog.globals[0]?).map (·.type)=some 176 by kernel_rfl).symm.trans ht6);rw[qr6]at hd2;have e2:=qr5 (vs:=vr0.map λz=>Value.int .u64 z) Tryz.underlying250 (by kernel_rfl) (by kernel_rfl) hd2 (by simp) (λm c d q v i h1 h2 h3=>by
  rw[Bp]at h1 h2;obtain⟨z,h5,rfl⟩:=Fi.1 h1;rw[h5]at h2;cases h2;exact km2 Tryz.underlying162 h3)
 have e4:=kb4 hd4;have e5:=kb4 hd5;have e6:=kb4 hd6;have e3:cs3.toList=[.int .u8 1,.string ⟨#[73,78,84]⟩,.int .i64 4,.int .u8 2,.string ⟨#[66,89,84,69]⟩,.int .i64 1,.int .u8 3,.string ⟨#[66,79,79,76]⟩,.int .i64 1]:=by
  obtain⟨xs,m,_,hx,hlen,hxl,hat⟩:=DataW.trod_array Tryz.underlying253 hd3;have hlen:cs3.toList.length=9:=hlen.trans (by kernel_rfl)
  match xs,hxl with
  |[x0,x1,x2],_=>
   rw[Bh]at hx;have hx:=hx.1;simp only[List.map_cons,Bj]at hx;unfold Rows.laid_transputer_types_primitive at hx;simp only[DataW.agg.injEq,List.cons.injEq,and_true]at hx;obtain⟨y0,y1,y2⟩:=hx;have a0:=hat 0 (by omega);have a1:=hat 1 (by omega);have a2:=hat 2 (by omega);have k:∀ x:DataW Unit × List MemPlace,x=(x.1,x.2):=λx=>rfl;simp only[List.getElem?_cons_zero,List.getElem?_cons_succ]at a0 a1 a2;rw[k x0,<-y0]at a0;rw[k x1,<-y1]at a1;rw[k x2,<-y2]at a2;have b0:(cs3.toList.drop 0).take 3=_:=kb5 a0;have b1:(cs3.toList.drop 3).take 3=_:=kb5 a1;have b2:(cs3.toList.drop 6).take 3=_:=kb5 a2;generalize cs3.toList=l at hlen b0 b1 b2 ⊢
   match l,hlen with
   |[c0,c1,c2,c3,c4,c5,c6,c7,c8],_=>
    simp at b0 b1 b2;obtain⟨rfl,rfl,rfl⟩:=b0;obtain⟨rfl,rfl,rfl⟩:=b1;obtain⟨rfl,rfl,rfl⟩:=b2;rfl
 obtain⟨mm,csm,tm,fm,hm,hms⟩:∃ mm csm tm fm,W.heap[5]? =some (.cells csm tm fm)/\csm.toList=[.int .i64 mm]:=by
  obtain⟨csm,hm,hsz,_⟩:=hsh.1 5 #[.int .i64 0] 3 (of_decide_eq_true (by kernel_rfl)) (by kernel_rfl);obtain⟨mm,hc⟩:=cell_of_shapedOpen_int (zero:=#[.int .i64 0]) (t:=3) (k:=.i64) (g:=5) hsh (of_decide_eq_true (by kernel_rfl)) (by kernel_rfl) rfl (by kernel_rfl) (by kernel_rfl) Tryz.underlying3;refine⟨mm,csm,_,_,hm,?_⟩;unfold World.cell? at hc;rw[hm]at hc;have hl:csm.toList.length=1:=by simpa using hsz
  generalize hcs:csm.toList=l at hl
  match l,hl with
  |[x],_=>
   have:csm=#[x]:=by rw[<-Array.toArray_toList (xs:=csm),hcs]
   subst this;simp at hc;rw[hc]
 refine⟨mm,λg cs hl=>?_⟩;unfold glS at hl;simp only[look]at hl;cases k1:Nat.beq 5 g with
 |true=>
  rw[k1]at hl;cases hl;obtain rfl:=Bo k1;exact⟨_,tm,fm,by rw[hm,<-Array.toArray_toList (xs:=csm),hms];rfl,λ_ h=>h,jr7 _ _ .i64 [mm]⟩
 |false=>
 rw[k1]at hl;cases k2:Nat.beq 0 g with
 |true=>
  rw[k2]at hl;cases hl;obtain rfl:=Bo k2;exact km3 hg6 hv6 e6 (jr7 _ _ .i64 [0,2048])
 |false=>
 rw[k2]at hl;cases k3:Nat.beq 1 g with
 |true=>
  rw[k3]at hl;cases hl;obtain rfl:=Bo k3;exact km3 hg4 hv4 e4 (jr7 _ _ .i64 [1,1])
 |false=>
 rw[k3]at hl;cases k4:Nat.beq 2 g with
 |true=>
  rw[k4]at hl;cases hl;obtain rfl:=Bo k4;exact km3 hg5 hv5 e5 (jr7 _ _ .i64 [1,8])
 |false=>
 rw[k4]at hl;cases k5:Nat.beq 4 g with
 |true=>
  rw[k5]at hl;cases hl;obtain rfl:=Bo k5;exact km3 hg3 hv3 e3 ⟨_,_,rfl,rfl,rfl,_,_,rfl,rfl,rfl,_,_,rfl,rfl,rfl,_,_,rfl,rfl,rfl,_,_,rfl,rfl,rfl,_,_,rfl,rfl,rfl,_,_,rfl,rfl,rfl,_,_,rfl,rfl,rfl,_,_,rfl,rfl,rfl,rfl⟩
 |false=>
 rw[k5]at hl;cases k6:Nat.beq 3 g with
 |true=>
  rw[k6]at hl;cases hl;obtain rfl:=Bo k6;exact km3 hg2 hv2 e2 (jr7 _ _ .u64 vr0)
 |false=>
 rw[k6]at hl;cases hl
end
section
open Go.ChangeShapes Go.WideShapes Go.ChangeAt Go.RowKit
theorem ry2 {H:Type}{enc:TypeId × Value->H}{w:World}{v:Value}{d:DataW H}{ps:List MemPlace}{t:TypeId}{fs:Array Field}{G:List D->Prop}{b0:Nat}{sp:Nat->Bool}{hd:Bool}(ht:prog.underlying t=some (.struct fs))(ho:Opn prog t G)
 (hv:Value.okWide prog w .any b0 t v) (h:DataW.Trod enc prog w 0 sp hd t v d ps):∃ ds,G ds/\Gv w NoM (.agg ds) v/\Ow ds<=Rows.uptoBulk d:=by
 unfold Value.okWide at hv;rw[ht]at hv;obtain⟨cs,rfl,_,_⟩:=hv;obtain⟨f,hf⟩:=h;obtain⟨ds,h1,h2,h3⟩:=ho _ _ _ _ _ _ _ _ _ hf;exact⟨ds,h1,⟨cs.toList,by simp,by simpa [Value.cells]using h2⟩,h3⟩
theorem ri1:ownKnob prog.godebug=none:=by kernel_rfl
theorem ri2:laidOutB prog=true:=by kernel_rfl
end
end Go.Proofs.YtklklgfpkpglgaaGreatDoor
