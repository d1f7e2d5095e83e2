/- Parts: O1, O2, O3, O4, O5. -/
import Derived.Test.YtdopmfifmgkmoaaGreatDoorP11
set_option linter.all false
set_option maxRecDepth 100000
set_option maxHeartbeats 16000000
namespace Go.Proofs.YtdopmfifmgkmoaaGreatDoor
open Go.RowKit Go.Proofs.Tryz
section
instance decBytes:DecidableEq ByteArray:=fun a b=>decidable_of_iff (a.data.toList=b.data.toList) ⟨fun h=>by
 cases a with|mk a=>cases b with|mk b=>cases a with|mk a=>cases b with|mk b=>exact congrArg (fun l=>ByteArray.mk (Array.mk l)) h,fun h=>by rw[h]⟩
inductive Ex where
 |mk (kind:Int) (op:UInt8) (ty n:Int) (s:ByteArray) (l:List Ex)
mutual
def dEx:Ex->D
 |.mk kind op ty n s l=>.agg [.int .u8 kind,.int .u8 op.toNat,.int .u8 ty,.int .i32 n,.str s,.list 6 (ri3 l)]
def ri3:List Ex->List D
 |[]=>[]
 |e::l=>dEx e::ri3 l
end
theorem mj3:∀ l:List Ex,ri3 l=l.map dEx
 |[]=>by simp[ri3]
 |e::l=>by rw[ri3,mj3 l];rfl
def Ex.kind:Ex->Int|.mk k _ _ _ _ _=>k
def Ex.op:Ex->Int|.mk _ o _ _ _ _=>o.toNat
def Ex.ty:Ex->Int|.mk _ _ t _ _ _=>t
def Ex.n:Ex->Int|.mk _ _ _ n _ _=>n
def Ex.s:Ex->ByteArray|.mk _ _ _ _ s _=>s
def Ex.l:Ex->List Ex|.mk _ _ _ _ _ l=>l
def dE (e:Ex):D:=.agg [.int .u8 e.kind,.int .u8 e.op,.int .u8 e.ty,.int .i32 e.n,.str e.s,.list 6 (e.l.map dEx)]
theorem r9:dEx=dE:=by
 funext e;cases e;simp only[dEx,dE,Ex.kind,Ex.op,Ex.ty,Ex.n,Ex.s,Ex.l,mj3]
mutual
def exN:Ex->Nat
 |.mk _ _ _ _ _ l=>Hr l+1
def Hr:List Ex->Nat
 |[]=>0
 |e::l=>exN e+Hr l
end
theorem jm4:∀ e:Ex,1<=exN e
 |.mk _ _ _ _ _ l=>by simp[exN]
theorem n7:∀ l:List Ex,l.length<=Hr l
 |[]=>by simp[Hr]
 |e::l=>by have:=n7 l;have:=jm4 e;simp only[Ai,Hr];omega
theorem n5:∀ (l:List Ex) (j:Nat) (hj:j<l.length),Hr (l.take j)+exN l[j]<=Hr l
 |[],_,h=>by simp at h
 |e::l,0,_=>by simp[Hr]
 |e::l,j+1,h=>by
  have:=n5 l j (by simpa using h);simp only[Eg,Hr,Bz];omega
theorem ju7 {e:Ex}:∀ {l:List Ex},e∈l->exN e<=Hr l
 |x::l,h=>by
  rcases Bf.1 h with rfl|h
  ·simp only[Hr];omega
  ·have:=ju7 h;simp only[Hr];omega
theorem mx9 (e:Ex):exN e=Hr e.l+1:=by cases e;rfl
def ex0:Ex:=.mk 0 0 0 0 ByteArray.empty []
structure Ty where
 kind:Int
 dim:Int
 item:Int
 proto:ByteArray
def dTy (t:Ty):D:=.agg [.int .u8 t.kind,.int .i64 t.dim,.int .u8 t.item,.str t.proto]
def ty0:Ty:=⟨0,0,0,ByteArray.empty⟩
structure Va where
 tag:ByteArray
 items:List Int
def dVa (v:Va):D:=.agg [.str v.tag,.list 1 (v.items.map (.int .u8))]
structure Pt where
 cases:Bool
 l:List Va
def dPt (p:Pt):D:=.agg [.bool p.cases,.list 2 (p.l.map dVa)]
def pt0:Pt:=⟨false,[]⟩
structure Fo where
 val:Bool
 type:Ty
 name:ByteArray
def dFo (f:Fo):D:=.agg [.bool f.val,.int .u8 f.type.kind,.int .i64 f.type.dim,.int .u8 f.type.item,.str f.type.proto,.str f.name]
structure Rp where
 name:ByteArray
 base:Ex
 count:Ex
def dRp (r:Rp):D:=.agg [.str r.name,.int .u8 r.base.kind,.int .u8 r.base.op,.int .u8 r.base.ty,.int .i32 r.base.n,.str r.base.s,.list 6 (r.base.l.map dEx),
 .int .u8 r.count.kind,.int .u8 r.count.op,.int .u8 r.count.ty,.int .i32 r.count.n,.str r.count.s,.list 6 (r.count.l.map dEx)]
def rp0:Rp:=⟨ByteArray.empty,ex0,ex0⟩
mutual
inductive Pr where
 |mk (kind:Int) (name:ByteArray) (chan:Ex) (targets exprs:List Ex) (rep:Rp) (guards:List Gu) (l:List Pr) (procs:List Int) (spec:Sp)
inductive Gu where
 |mk (kind:Int) (name:ByteArray) (cond chan:Ex) (targets values:List Ex) (time:Ex) (body:List Pr)
inductive Sp where
 |mk (kind:Int) (type:Ty) (names:List ByteArray) (e:Ex) (proto:Pt) (formals:List Fo) (body:List Pr)
end
namespace Pr
def kind:Pr->Int|mk k _ _ _ _ _ _ _ _ _=>k
def name:Pr->ByteArray|mk _ x _ _ _ _ _ _ _ _=>x
def chan:Pr->Ex|mk _ _ x _ _ _ _ _ _ _=>x
def targets:Pr->List Ex|mk _ _ _ x _ _ _ _ _ _=>x
def exprs:Pr->List Ex|mk _ _ _ _ x _ _ _ _ _=>x
def rep:Pr->Rp|mk _ _ _ _ _ x _ _ _ _=>x
def guards:Pr->List Gu|mk _ _ _ _ _ _ x _ _ _=>x
def l:Pr->List Pr|mk _ _ _ _ _ _ _ x _ _=>x
def procs:Pr->List Int|mk _ _ _ _ _ _ _ _ x _=>x
def spec:Pr->Sp|mk _ _ _ _ _ _ _ _ _ x=>x
end Pr
namespace Gu
def kind:Gu->Int|mk x _ _ _ _ _ _ _=>x
def name:Gu->ByteArray|mk _ x _ _ _ _ _ _=>x
def cond:Gu->Ex|mk _ _ x _ _ _ _ _=>x
def chan:Gu->Ex|mk _ _ _ x _ _ _ _=>x
def targets:Gu->List Ex|mk _ _ _ _ x _ _ _=>x
def values:Gu->List Ex|mk _ _ _ _ _ x _ _=>x
def time:Gu->Ex|mk _ _ _ _ _ _ x _=>x
def body:Gu->List Pr|mk _ _ _ _ _ _ _ x=>x
end Gu
namespace Sp
def kind:Sp->Int|mk x _ _ _ _ _ _=>x
def type:Sp->Ty|mk _ x _ _ _ _ _=>x
def names:Sp->List ByteArray|mk _ _ x _ _ _ _=>x
def e:Sp->Ex|mk _ _ _ x _ _ _=>x
def proto:Sp->Pt|mk _ _ _ _ x _ _=>x
def formals:Sp->List Fo|mk _ _ _ _ _ x _=>x
def body:Sp->List Pr|mk _ _ _ _ _ _ x=>x
end Sp
def sp0:Sp:=.mk 0 ty0 [] ex0 pt0 [] []
def pr0:Pr:=.mk 0 ByteArray.empty ex0 [] [] rp0 [] [] [] sp0
def gu0:Gu:=.mk 0 ByteArray.empty ex0 ex0 [] [] ex0 []
mutual
def dPr:Pr->D
 |.mk kind name chan targets exprs rep guards l procs (.mk sk st sn se spp sf sb)=>.agg [.int .u8 kind,.str name,
  .int .u8 chan.kind,.int .u8 chan.op,.int .u8 chan.ty,.int .i32 chan.n,.str chan.s,.list 6 (chan.l.map dEx),
  .list 6 (targets.map dEx),.list 6 (exprs.map dEx),
  .str rep.name,.int .u8 rep.base.kind,.int .u8 rep.base.op,.int .u8 rep.base.ty,.int .i32 rep.base.n,.str rep.base.s,.list 6 (rep.base.l.map dEx),
  .int .u8 rep.count.kind,.int .u8 rep.count.op,.int .u8 rep.count.ty,.int .i32 rep.count.n,.str rep.count.s,.list 6 (rep.count.l.map dEx),
  .list 23 (qw2 guards),.list 42 (ql2 l),.list 1 (procs.map (.int .i64)),
  .int .u8 sk,.int .u8 st.kind,.int .i64 st.dim,.int .u8 st.item,.str st.proto,.list 1 (sn.map .str),
  .int .u8 se.kind,.int .u8 se.op,.int .u8 se.ty,.int .i32 se.n,.str se.s,.list 6 (se.l.map dEx),
  .bool spp.cases,.list 2 (spp.l.map dVa),.list 6 (sf.map dFo),.list 42 (ql2 sb)]
def ql2:List Pr->List D
 |[]=>[]
 |p::l=>dPr p::ql2 l
def dGu:Gu->D
 |.mk kind name cond chan targets values time body=>.agg [.int .u8 kind,.str name,
  .int .u8 cond.kind,.int .u8 cond.op,.int .u8 cond.ty,.int .i32 cond.n,.str cond.s,.list 6 (cond.l.map dEx),
  .int .u8 chan.kind,.int .u8 chan.op,.int .u8 chan.ty,.int .i32 chan.n,.str chan.s,.list 6 (chan.l.map dEx),
  .list 6 (targets.map dEx),.list 6 (values.map dEx),
  .int .u8 time.kind,.int .u8 time.op,.int .u8 time.ty,.int .i32 time.n,.str time.s,.list 6 (time.l.map dEx),
  .list 42 (ql2 body)]
def qw2:List Gu->List D
 |[]=>[]
 |g::l=>dGu g::qw2 l
end
theorem kq5:∀ l:List Pr,ql2 l=l.map dPr
 |[]=>by simp[ql2]
 |e::l=>by rw[ql2,kq5 l];rfl
theorem mj4:∀ l:List Gu,qw2 l=l.map dGu
 |[]=>by simp[qw2]
 |e::l=>by rw[qw2,mj4 l];rfl
def dP (p:Pr):D:=.agg [.int .u8 p.kind,.str p.name,
    .int .u8 p.chan.kind,.int .u8 p.chan.op,.int .u8 p.chan.ty,.int .i32 p.chan.n,.str p.chan.s,.list 6 (p.chan.l.map dEx),
    .list 6 (p.targets.map dEx),.list 6 (p.exprs.map dEx),
    .str p.rep.name,.int .u8 p.rep.base.kind,.int .u8 p.rep.base.op,.int .u8 p.rep.base.ty,.int .i32 p.rep.base.n,.str p.rep.base.s,.list 6 (p.rep.base.l.map dEx),
    .int .u8 p.rep.count.kind,.int .u8 p.rep.count.op,.int .u8 p.rep.count.ty,.int .i32 p.rep.count.n,.str p.rep.count.s,.list 6 (p.rep.count.l.map dEx),
    .list 23 (p.guards.map dGu),.list 42 (p.l.map dPr),.list 1 (p.procs.map (.int .i64)),
    .int .u8 p.spec.kind,.int .u8 p.spec.type.kind,.int .i64 p.spec.type.dim,.int .u8 p.spec.type.item,.str p.spec.type.proto,.list 1 (p.spec.names.map .str),
    .int .u8 p.spec.e.kind,.int .u8 p.spec.e.op,.int .u8 p.spec.e.ty,.int .i32 p.spec.e.n,.str p.spec.e.s,.list 6 (p.spec.e.l.map dEx),
    .bool p.spec.proto.cases,.list 2 (p.spec.proto.l.map dVa),.list 6 (p.spec.formals.map dFo),.list 42 (p.spec.body.map dPr)]
def dG (g:Gu):D:=.agg [.int .u8 g.kind,.str g.name,
    .int .u8 g.cond.kind,.int .u8 g.cond.op,.int .u8 g.cond.ty,.int .i32 g.cond.n,.str g.cond.s,.list 6 (g.cond.l.map dEx),
    .int .u8 g.chan.kind,.int .u8 g.chan.op,.int .u8 g.chan.ty,.int .i32 g.chan.n,.str g.chan.s,.list 6 (g.chan.l.map dEx),
    .list 6 (g.targets.map dEx),.list 6 (g.values.map dEx),
    .int .u8 g.time.kind,.int .u8 g.time.op,.int .u8 g.time.ty,.int .i32 g.time.n,.str g.time.s,.list 6 (g.time.l.map dEx),
    .list 42 (g.body.map dPr)]
def dSp (s:Sp):D:=.agg [.int .u8 s.kind,.int .u8 s.type.kind,.int .i64 s.type.dim,.int .u8 s.type.item,.str s.type.proto,.list 1 (s.names.map .str),
    .int .u8 s.e.kind,.int .u8 s.e.op,.int .u8 s.e.ty,.int .i32 s.e.n,.str s.e.s,.list 6 (s.e.l.map dEx),
    .bool s.proto.cases,.list 2 (s.proto.l.map dVa),.list 6 (s.formals.map dFo),.list 42 (s.body.map dPr)]
theorem v8:dPr=dP:=by
 funext p;obtain⟨_,_,_,_,_,_,_,_,_,⟨⟩⟩:=p;simp only[dPr,dP,Pr.kind,Pr.name,Pr.chan,Pr.targets,Pr.exprs,Pr.rep,Pr.guards,Pr.l,Pr.procs,Pr.spec,Sp.kind,Sp.type,Sp.names,Sp.e,Sp.proto,Sp.formals,Sp.body,kq5,mj4]
theorem je9:dGu=dG:=by
 funext g;cases g;simp only[dGu,dG,Gu.kind,Gu.name,Gu.cond,Gu.chan,Gu.targets,Gu.values,Gu.time,Gu.body,kq5]
end
section
namespace Lx
def letter (c:UInt8):Bool:=decide (97<=c.toNat/\c.toNat<=122) || decide (65<=c.toNat/\c.toNat<=90)
def digit (c:UInt8):Bool:=decide (48<=c.toNat/\c.toNat<=57)
def Md (c:UInt8):Bool:=letter c || digit c || decide (c.toNat=46)
def run:List UInt8->Nat
 |[]=>0
 |c::l=>if Md c then run l+1 else 0
def keys:List ByteArray:=[⟨#[65,70,84,69,82]⟩,⟨#[65,76,84]⟩,⟨#[65,78,68]⟩,⟨#[66,79,79,76]⟩,⟨#[66,89,84,69]⟩,⟨#[67,65,83,69]⟩,⟨#[67,72,65,78]⟩,⟨#[69,76,83,69]⟩,⟨#[70,65,76,83,69]⟩,⟨#[70,79,82]⟩,⟨#[73,70]⟩,⟨#[73,78,84]⟩,⟨#[73,83]⟩,⟨#[77,73,78,85,83]⟩,⟨#[78,79,84]⟩,⟨#[79,70]⟩,⟨#[79,82]⟩,⟨#[80,65,82]⟩,⟨#[80,76,65,67,69,68]⟩,⟨#[80,76,85,83]⟩,⟨#[80,82,73]⟩,⟨#[80,82,79,67]⟩,⟨#[80,82,79,67,69,83,83,79,82]⟩,⟨#[80,82,79,84,79,67,79,76]⟩,⟨#[83,69,81]⟩,⟨#[83,73,90,69]⟩,⟨#[83,75,73,80]⟩,⟨#[83,84,79,80]⟩,⟨#[84,73,77,69,82]⟩,⟨#[84,73,77,69,83]⟩,⟨#[84,82,85,69]⟩,⟨#[86,65,76]⟩,⟨#[87,72,73,76,69]⟩]
def isKey (s:ByteArray):Bool:=keys.any fun k=>decide (k=s)
def Dg (s:ByteArray):Bool:=match s.data.toList with
 |[]=>false
 |c::l=>decide (l.length<32) && letter c && l.all Md && !isKey s
theorem qw3:∀ l:List UInt8,run l<=l.length
 |[]=>As _
 |c::l=>by
  have:=qw3 l;simp only[run,Ai];split<;>omega
theorem Rs:∀ l:List UInt8,run l=l.length↔l.all Md=true
 |[]=>by simp[run]
 |c::l=>by
  have h1:=Rs l;have h2:=qw3 l;simp only[run,Ai,Ei,Ab,<-h1];split<;>simp_all
end Lx
end
section
open Classical in
noncomputable def eqB {α:Type}(a b:α):Bool:=decide (a=b)
theorem k7 {α:Type}{a b:α}:eqB a b=true↔a=b:=by simp[eqB]
theorem v7 {α:Type}{a b:α}:eqB a b=false↔a≠b:=by simp[eqB]
namespace Lx
def prim (k:Int):Bool:=decide (k=1) || decide (k=2) || decide (k=3)
def Qp (t:Ty):Bool:=
 decide (0<=t.dim/\t.dim<=64) && (if prim t.kind then decide (t.item=0) && decide (t.proto=ByteArray.empty)
  else if t.kind=4 then (if t.item=0 then Dg t.proto else prim t.item && decide (t.proto=ByteArray.empty))
  else decide (t.kind=5/\t.dim=0/\t.item=0/\t.proto=ByteArray.empty))
def Ld (l:List Int)(least:Int):Bool:=decide (least<=l.length/\(l.length:Int)<=8) && l.all prim
def Ol (pre:List Va):List Va->Bool
 |[]=>true
 |v::l=>Dg v.tag && Ld v.items 0 && !(pre.any fun w=>decide (w.tag=v.tag)) && Ol (pre++[v]) l
def Ny (p:Pt):Bool:=if p.cases then decide (1<=p.l.length/\p.l.length<=16) && Ol [] p.l else match p.l with
 |[v]=>decide (v.tag=ByteArray.empty) && Ld v.items 1
 |_=>false
def Ka (kind op ty n:Int)(s:ByteArray):Int × Bool:=
 if kind=1 then (0,decide (op=0/\ty=0/\s=ByteArray.empty))
 else if kind=2 then (if 0<=n/\n<=255 then (0,decide (op=0/\ty=0/\s=ByteArray.empty)) else (0,false))
 else if kind=3 then (if 0<=n/\n<=1 then (0,decide (op=0/\ty=0/\s=ByteArray.empty)) else (0,false))
 else if kind=4\/kind=9\/kind=5 then (if Dg s then (if kind=5 then 1 else 0,decide (op=0/\ty=0/\n=0)) else (0,false))
 else if kind=6 then (if 23<=op/\op<=26 then (1,decide (ty=0/\n=0/\s=ByteArray.empty)) else (0,false))
 else if kind=7 then (if 1<=op/\op<=22 then (2,decide (ty=0/\n=0/\s=ByteArray.empty)) else (0,false))
 else if kind=8 then (if prim ty then (1,decide (op=0/\n=0/\s=ByteArray.empty)) else (0,false))
 else (0,false)
def Lg (e:Ex):Bool:=(Ka e.kind e.op e.ty e.n e.s).2 && decide ((e.l.length:Int)=(Ka e.kind e.op e.ty e.n e.s).1)
mutual
def Dx (deep left:Int):Ex->Bool × Int
 |.mk kind op ty n s l=>
  if Lg (.mk kind op ty n s l)=false\/left - 1<0\/32<deep then (false,left - 1) else Gi (deep+1) (left - 1) l
def Gi (deep left:Int):List Ex->Bool × Int
 |[]=>(true,left)
 |e::l=>if (Dx deep left e).1 then Gi deep (Dx deep left e).2 l else Dx deep left e
end
mutual
def Iy (inside left:Int):Ex->Int
 |.mk kind op ty n s l=>
  if inside=32\/left=0\/Lg (.mk kind op ty n s l)=false then -1 else Jg (inside+1) (left - 1) l
def Jg (inside left:Int):List Ex->Int
 |[]=>left
 |e::l=>if Iy inside left e<0 then -1 else Jg inside (Iy inside left e) l
end
def Gr (e:Ex):Bool:=(Dx 1 256 e).1
mutual
theorem Pj:∀ (e:Ex) (inside left:Int),0<=left->0<=inside->inside<=32->
 ((Dx (inside+1) left e).1=true↔0<=Iy inside left e)/\(0<=Iy inside left e->(Dx (inside+1) left e).2=Iy inside left e/\Iy inside left e<=left - 1)
 |.mk kind op ty n s l,inside,left,h0,h1,h2=>by
  by_cases hc:inside=32\/left=0\/Lg (.mk kind op ty n s l)=false
  ·have e1:Dx (inside+1) left (.mk kind op ty n s l)=(false,left - 1):=by rw[Dx,Ae (hc.elim (fun h=>.inr (.inr (by omega))) fun h=>h.elim (fun h=>.inr (.inl (by omega))) .inl)]
   have e2:Iy inside left (.mk kind op ty n s l)=-1:=by rw[Iy,Ae hc]
   rw[e1,e2];simp
  ·have e1:Dx (inside+1) left (.mk kind op ty n s l)=Gi (inside+1+1) (left - 1) l:=by rw[Dx,Af (fun h=>hc (h.elim (fun h=>.inr (.inr h)) fun h=>h.elim (fun h=>.inr (.inl (by omega))) fun h=>.inl (by omega)))]
   have e2:Iy inside left (.mk kind op ty n s l)=Jg (inside+1) (left - 1) l:=by rw[Iy,Af hc]
   rw[e1,e2];exact ka5 l (inside+1) (left - 1) (by omega) (by omega) (by omega)
theorem ka5:∀ (l:List Ex) (inside left:Int),0<=left->0<=inside->inside<=32->
 ((Gi (inside+1) left l).1=true↔0<=Jg inside left l)/\(0<=Jg inside left l->(Gi (inside+1) left l).2=Jg inside left l/\Jg inside left l<=left)
 |[],inside,left,h0,h1,h2=>by simp[Gi,Jg,h0]
 |e::l,inside,left,h0,h1,h2=>by
  have h3:=Pj e inside left h0 h1 h2;by_cases hr:Iy inside left e<0
  ·have hf:(Dx (inside+1) left e).1=false:=by
    cases h:(Dx (inside+1) left e).1 with
    |false=>rfl
    |true=>have:=h3.1.1 h;omega
   have e2:Jg inside left (e::l)=-1:=by rw[Jg,Ae hr]
   have e1:Gi (inside+1) left (e::l)=Dx (inside+1) left e:=by rw[Gi,hf];rfl
   rw[e1,e2,hf];simp
  ·have h5:=h3.2 (by omega);have e2:Jg inside left (e::l)=Jg inside (Iy inside left e) l:=by rw[Jg,Af hr]
   have e1:Gi (inside+1) left (e::l)=Gi (inside+1) (Iy inside left e) l:=by rw[Gi,h3.1.2 (by omega),Ae rfl,h5.1]
   rw[e1,e2];have h6:=ka5 l inside (Iy inside left e) (by omega) h1 h2;exact⟨h6.1,fun h=>⟨(h6.2 h).1,by have:=(h6.2 h).2;omega⟩⟩
end
theorem Wi (e:Ex):Gr e=true↔0<=Iy 0 256 e:=(Pj e 0 256 (by omega) (by omega) (by omega)).1
end Lx
end
section
namespace Lx
noncomputable def Jm (e:Ex):Bool:=eqB e ex0
def Hf (e:Ex):Bool:=(decide (e.kind=4) || decide (e.kind=5)) && Gr e
def Ru (t:Ty):Bool:=Qp t && decide (t.dim=0) && prim t.kind
noncomputable def Iz (r:Rp):Bool:=if r.name=ByteArray.empty then Jm r.base && Jm r.count else Dg r.name && Gr r.base && Gr r.count
def Mg (f:Fo):Bool:=Dg f.name && Qp f.type && (!f.val || Ru f.type)
def hasB (a b:Int)(n:Nat):Bool:=decide (a<=n) && decide ((n:Int)<=b)
def Da {α:Type}(l:List α)(a b:Int)(p:α->Bool):Bool:=hasB a b l.length && l.all p
noncomputable def Lh (g:Gu):Bool:=
 decide (g.kind≠0) && decide (g.kind<=7) && decide (g.body.length=1) &&
 (if g.kind=1\/g.kind=2\/g.kind=3\/g.kind=4 then (Gr g.cond || ((decide (g.kind=3) || decide (g.kind=4)) && Jm g.cond)) else Jm g.cond) &&
 (if g.kind=7 then Dg g.name else decide (g.name=ByteArray.empty)) &&
 (if g.kind=3\/g.kind=4 then Hf g.chan else Jm g.chan) &&
 (if g.kind=4 then Gr g.time else Jm g.time) &&
 Da g.targets (if g.kind=3 then 1 else 0) (if g.kind=3\/g.kind=7 then 8 else 0) Hf &&
 Da g.values (if g.kind=5 then 1 else 0) (if g.kind=5 then 8 else 0) Gr
noncomputable def Jf (s:Sp):Bool:=
 if s.kind=1 then Qp s.type && Da s.names 1 8 Dg && Jm s.e && eqB s.proto pt0 && decide (s.formals.length=0) && decide (s.body.length=0)
 else if s.kind=2 then Ru s.type && Gr s.e && Da s.names 1 1 Dg && eqB s.proto pt0 && decide (s.formals.length=0) && decide (s.body.length=0)
 else if s.kind=3 then Ru s.type && Hf s.e && Da s.names 1 1 Dg && eqB s.proto pt0 && decide (s.formals.length=0) && decide (s.body.length=0)
 else if s.kind=4 then Ny s.proto && Da s.names 1 1 Dg && eqB s.type ty0 && Jm s.e && decide (s.formals.length=0) && decide (s.body.length=0)
 else if s.kind=5 then decide (s.body.length=1) && Da s.formals 0 8 Mg && Da s.names 1 1 Dg && eqB s.type ty0 && Jm s.e && eqB s.proto pt0
 else false
structure Uses where
 rep:Bool
 name:Bool
 channel:Bool
 spec:Bool
 procs:Bool
 t0:Int
 t1:Int
 e0:Int
 e1:Int
 p0:Int
 p1:Int
 g0:Int
 g1:Int
 a:Int
 b:Int
def Gx:Uses:=⟨false,false,false,false,false,0,0,0,0,0,0,0,0,0,0⟩
def Ia (k:Int):Uses × Bool:=
 if k=1\/k=2 then (Gx,true)
 else if k=3 then ({Gx with t0:=1,t1:=8,e0:=1,e1:=8},true)
 else if k=4 then ({Gx with channel:=true,t0:=1,t1:=8},true)
 else if k=5 then ({Gx with channel:=true,e0:=1,e1:=9},true)
 else if k=6 then ({Gx with channel:=true,e0:=1,e1:=1},true)
 else if k=7 then ({Gx with channel:=true,g0:=1,g1:=16,a:=7,b:=7},true)
 else if k=8\/k=9 then ({Gx with rep:=true,p0:=0,p1:=2048},true)
 else if k=10 then ({Gx with p0:=2,p1:=2},true)
 else if k=11 then ({Gx with procs:=true,p0:=1,p1:=8},true)
 else if k=12\/k=13 then ({Gx with rep:=true,g0:=0,g1:=16,a:=2,b:=4},true)
 else if k=14 then ({Gx with rep:=true,g0:=0,g1:=16,a:=1,b:=1},true)
 else if k=15 then ({Gx with e0:=1,e1:=1,g0:=0,g1:=16,a:=5,b:=6},true)
 else if k=16 then ({Gx with e0:=1,e1:=1,p0:=1,p1:=1},true)
 else if k=17 then ({Gx with name:=true,e0:=0,e1:=8},true)
 else if k=18 then ({Gx with spec:=true,p0:=1,p1:=1},true)
 else (Gx,false)
def Ir (u:Uses)(r:ByteArray):Uses:=if r=ByteArray.empty then u else if u.p0=0/\u.p1=2048 then {u with p0:=1,p1:=1} else {u with g0:=1,g1:=1}
noncomputable def Il (p:Pr):Bool:=
 (Ia p.kind).2 && Iz p.rep && (decide (p.rep.name=ByteArray.empty) || (Ia p.kind).1.rep) &&
 (let u:=Ir (Ia p.kind).1 p.rep.name
  hasB u.p0 u.p1 p.l.length && Da p.guards u.g0 u.g1 (fun g=>decide (u.a<=g.kind) && decide (g.kind<=u.b) && Lh g) &&
  (if u.name then Dg p.name else decide (p.name=ByteArray.empty)) &&
  (if u.channel then Hf p.chan else Jm p.chan) &&
  Da p.targets u.t0 u.t1 Hf && Da p.exprs u.e0 u.e1 Gr &&
  Da p.procs (if u.procs then p.l.length else 0) (if u.procs then p.l.length else 0) (fun n=>decide (0<=n) && decide (n<8)) &&
  (if u.spec then Jf p.spec else eqB p.spec sp0))
mutual
noncomputable def Fz (depth left:Int)(placing:Bool):Pr->Bool × Int
 |.mk kind name chan targets exprs rep guards l procs (.mk sk st sn se spp sf sb)=>
  if left - 1<0\/32<depth\/Il (.mk kind name chan targets exprs rep guards l procs (.mk sk st sn se spp sf sb))=false\/(kind=11/\placing=false) then (false,left - 1)
  else if kind=18/\spp.cases=true/\32<depth+2 then (false,left - 1)
  else
   let b:=if kind=18 then Df (depth+1) (left - 1) sb else (true,left - 1)
   if b.1=false then (false,b.2)
   else
    let m:=Gg (if kind=11 then depth+2 else if kind=18 then depth else depth+1) b.2 (placing && decide (kind=18)) l
    if m.1=false then (false,m.2) else Ib (depth+2) m.2 guards
noncomputable def Df (depth left:Int):List Pr->Bool × Int
 |[]=>(true,left)
 |p::_=>Fz depth left false p
noncomputable def Gg (depth left:Int)(placing:Bool):List Pr->Bool × Int
 |[]=>(true,left)
 |p::l=>if (Fz depth left placing p).1 then Gg depth (Fz depth left placing p).2 placing l else Fz depth left placing p
noncomputable def Ib (depth left:Int):List Gu->Bool × Int
 |[]=>(true,left)
 |.mk _ _ _ _ _ _ _ body::l=>if (Df depth left body).1 then Ib depth (Df depth left body).2 l else Df depth left body
end
noncomputable def Dz (p:Pr):Bool:=(Fz 0 2048 true p).1
end Lx
end
section
namespace Lx
noncomputable def Ip (p:Pr)(nm ch tg ex pc sp:Bool):Bool:=
 (nm || decide (p.name=ByteArray.empty)) && (ch || Jm p.chan) && (tg || decide (p.targets.length=0)) && (ex || decide (p.exprs.length=0)) && (pc || decide (p.procs.length=0)) && (sp || eqB p.spec sp0)
noncomputable def Dq (l:List Gu)(a b lo hi:Int):Bool:=Da l a b fun g=>decide (lo<=g.kind) && decide (g.kind<=hi) && Lh g
noncomputable def ownB (p:Pr):Bool:=
 let rep:=!decide (p.rep.name=ByteArray.empty)
 let l0:=decide (p.l.length=0)
 let g0:=decide (p.guards.length=0)
 let least:Int:=if rep then 1 else 0
 let most:Int:=if rep then 1 else 16
 Iz p.rep &&
 (if p.kind=1\/p.kind=2 then !rep && l0 && g0 && Ip p false false false false false false
 else if p.kind=3 then !rep && Da p.targets 1 8 Hf && Da p.exprs 1 8 Gr && l0 && g0 && Ip p false false true true false false
 else if p.kind=4 then !rep && Hf p.chan && Da p.targets 1 8 Hf && l0 && g0 && Ip p false true true false false false
 else if p.kind=5 then !rep && Hf p.chan && Da p.exprs 1 9 Gr && l0 && g0 && Ip p false true false true false false
 else if p.kind=6 then !rep && Hf p.chan && Da p.exprs 1 1 Gr && l0 && g0 && Ip p false true false true false false
 else if p.kind=7 then !rep && Hf p.chan && l0 && Dq p.guards 1 16 7 7 && Ip p false true false false false false
 else if p.kind=8\/p.kind=9 then (!rep || decide (p.l.length=1)) && g0 && Ip p false false false false false false
 else if p.kind=10 then !rep && decide (p.l.length=2) && g0 && Ip p false false false false false false
 else if p.kind=11 then !rep && decide (p.procs.length=p.l.length) && p.procs.all (fun n=>decide (0<=n) && decide (n<8)) && hasB 1 8 p.l.length && g0 && Ip p false false false false true false
 else if p.kind=12\/p.kind=13 then l0 && Dq p.guards least most 2 4 && Ip p false false false false false false
 else if p.kind=14 then l0 && Dq p.guards least most 1 1 && Ip p false false false false false false
 else if p.kind=15 then !rep && Da p.exprs 1 1 Gr && l0 && Dq p.guards 0 16 5 6 && Ip p false false false true false false
 else if p.kind=16 then !rep && Da p.exprs 1 1 Gr && decide (p.l.length=1) && g0 && Ip p false false false true false false
 else if p.kind=17 then !rep && Dg p.name && Da p.exprs 0 8 Gr && l0 && g0 && Ip p true false false true false false
 else if p.kind=18 then !rep && Jf p.spec && decide (p.l.length=1) && g0 && Ip p false false false false false true
 else false)
theorem kq6 (n:Nat):hasB 0 0 n=decide (n=0):=by
 unfold hasB;rw[Ej];simp only[Ab,Al];omega
theorem kv4 (n:Nat):hasB 1 1 n=decide (n=1):=by
 unfold hasB;rw[Ej];simp only[Ab,Al];omega
theorem kv5 (n:Nat):hasB 2 2 n=decide (n=2):=by
 unfold hasB;rw[Ej];simp only[Ab,Al];omega
theorem jb4 (n:Nat):hasB 0 2048 n=decide (n<=2048):=by
 unfold hasB;rw[Ej];simp only[Ab,Al];omega
theorem qn1 (a b:Nat):hasB b b a=decide (a=b):=by
 unfold hasB;rw[Ej];simp only[Ab,Al];omega
theorem Jy {α:Type}(l:List α)(p:α->Bool):Da l 0 0 p=decide (l.length=0):=by
 unfold Da;rw[kq6];cases l<;>simp
theorem l8 (procs:List Int)(b:Nat):Da procs (b:Int) b (fun n=>decide (0<=n) && decide (n<8))=(decide (procs.length=b) && procs.all fun n=>decide (0<=n) && decide (n<8)):=by unfold Da;rw[qn1]
theorem Np (p:Pr):Il p=(ownB p && decide (p.l.length<=2048)):=by
 obtain⟨kind,name,chan,targets,exprs,rep,guards,l,procs,spec⟩:=p;unfold Il ownB;simp only[Pr.kind,Pr.name,Pr.chan,Pr.targets,Pr.exprs,Pr.rep,Pr.guards,Pr.l,Pr.procs,Pr.spec];cases Iz rep with
 |false=>simp
 |true=>
  by_cases hr:rep.name=ByteArray.empty
  all_goals
   simp only[hr,decide_true,decide_false,Bool.not_true,Bool.not_false,Ir,if_true,if_false,Ee,Ed,Bn,Bc,Ay];by_cases h1:kind=1
   ·subst h1;simp only[Ia,Gx,if_true,if_false,Ay,Ip,Dq,kq6,kv4,kv5,jb4,Jy,l8,Pr.name,Pr.chan,Pr.targets,Pr.exprs,Pr.procs,Pr.spec,Int.reduceEq,or_self,or_true,true_or,or_false,false_or,and_self,and_true,and_false,false_and,true_and,decide_true,decide_false,Bc,Av,Bool.not_true,Bool.not_false,Ea,Eh,Ee,Ed,Bn,Az,reduceCtorEq]<;>grind [hasB,Da]
   by_cases h2:kind=2
   ·subst h2;simp only[Ia,Gx,if_true,if_false,Ay,Ip,Dq,kq6,kv4,kv5,jb4,Jy,l8,Pr.name,Pr.chan,Pr.targets,Pr.exprs,Pr.procs,Pr.spec,Int.reduceEq,or_self,or_true,true_or,or_false,false_or,and_self,and_true,and_false,false_and,true_and,decide_true,decide_false,Bc,Av,Bool.not_true,Bool.not_false,Ea,Eh,Ee,Ed,Bn,Az,reduceCtorEq]<;>grind [hasB,Da]
   by_cases h3:kind=3
   ·subst h3;simp only[Ia,Gx,if_true,if_false,Ay,Ip,Dq,kq6,kv4,kv5,jb4,Jy,l8,Pr.name,Pr.chan,Pr.targets,Pr.exprs,Pr.procs,Pr.spec,Int.reduceEq,or_self,or_true,true_or,or_false,false_or,and_self,and_true,and_false,false_and,true_and,decide_true,decide_false,Bc,Av,Bool.not_true,Bool.not_false,Ea,Eh,Ee,Ed,Bn,Az,reduceCtorEq]<;>grind [hasB,Da]
   by_cases h4:kind=4
   ·subst h4;simp only[Ia,Gx,if_true,if_false,Ay,Ip,Dq,kq6,kv4,kv5,jb4,Jy,l8,Pr.name,Pr.chan,Pr.targets,Pr.exprs,Pr.procs,Pr.spec,Int.reduceEq,or_self,or_true,true_or,or_false,false_or,and_self,and_true,and_false,false_and,true_and,decide_true,decide_false,Bc,Av,Bool.not_true,Bool.not_false,Ea,Eh,Ee,Ed,Bn,Az,reduceCtorEq]<;>grind [hasB,Da]
   by_cases h5:kind=5
   ·subst h5;simp only[Ia,Gx,if_true,if_false,Ay,Ip,Dq,kq6,kv4,kv5,jb4,Jy,l8,Pr.name,Pr.chan,Pr.targets,Pr.exprs,Pr.procs,Pr.spec,Int.reduceEq,or_self,or_true,true_or,or_false,false_or,and_self,and_true,and_false,false_and,true_and,decide_true,decide_false,Bc,Av,Bool.not_true,Bool.not_false,Ea,Eh,Ee,Ed,Bn,Az,reduceCtorEq]<;>grind [hasB,Da]
   by_cases h6:kind=6
   ·subst h6;simp only[Ia,Gx,if_true,if_false,Ay,Ip,Dq,kq6,kv4,kv5,jb4,Jy,l8,Pr.name,Pr.chan,Pr.targets,Pr.exprs,Pr.procs,Pr.spec,Int.reduceEq,or_self,or_true,true_or,or_false,false_or,and_self,and_true,and_false,false_and,true_and,decide_true,decide_false,Bc,Av,Bool.not_true,Bool.not_false,Ea,Eh,Ee,Ed,Bn,Az,reduceCtorEq]<;>grind [hasB,Da]
   by_cases h7:kind=7
   ·subst h7;simp only[Ia,Gx,if_true,if_false,Ay,Ip,Dq,kq6,kv4,kv5,jb4,Jy,l8,Pr.name,Pr.chan,Pr.targets,Pr.exprs,Pr.procs,Pr.spec,Int.reduceEq,or_self,or_true,true_or,or_false,false_or,and_self,and_true,and_false,false_and,true_and,decide_true,decide_false,Bc,Av,Bool.not_true,Bool.not_false,Ea,Eh,Ee,Ed,Bn,Az,reduceCtorEq]<;>grind [hasB,Da]
   by_cases h8:kind=8
   ·subst h8;simp only[Ia,Gx,if_true,if_false,Ay,Ip,Dq,kq6,kv4,kv5,jb4,Jy,l8,Pr.name,Pr.chan,Pr.targets,Pr.exprs,Pr.procs,Pr.spec,Int.reduceEq,or_self,or_true,true_or,or_false,false_or,and_self,and_true,and_false,false_and,true_and,decide_true,decide_false,Bc,Av,Bool.not_true,Bool.not_false,Ea,Eh,Ee,Ed,Bn,Az,reduceCtorEq]<;>grind [hasB,Da]
   by_cases h9:kind=9
   ·subst h9;simp only[Ia,Gx,if_true,if_false,Ay,Ip,Dq,kq6,kv4,kv5,jb4,Jy,l8,Pr.name,Pr.chan,Pr.targets,Pr.exprs,Pr.procs,Pr.spec,Int.reduceEq,or_self,or_true,true_or,or_false,false_or,and_self,and_true,and_false,false_and,true_and,decide_true,decide_false,Bc,Av,Bool.not_true,Bool.not_false,Ea,Eh,Ee,Ed,Bn,Az,reduceCtorEq]<;>grind [hasB,Da]
   by_cases h10:kind=10
   ·subst h10;simp only[Ia,Gx,if_true,if_false,Ay,Ip,Dq,kq6,kv4,kv5,jb4,Jy,l8,Pr.name,Pr.chan,Pr.targets,Pr.exprs,Pr.procs,Pr.spec,Int.reduceEq,or_self,or_true,true_or,or_false,false_or,and_self,and_true,and_false,false_and,true_and,decide_true,decide_false,Bc,Av,Bool.not_true,Bool.not_false,Ea,Eh,Ee,Ed,Bn,Az,reduceCtorEq]<;>grind [hasB,Da]
   by_cases h11:kind=11
   ·subst h11;simp only[Ia,Gx,if_true,if_false,Ay,Ip,Dq,kq6,kv4,kv5,jb4,Jy,l8,Pr.name,Pr.chan,Pr.targets,Pr.exprs,Pr.procs,Pr.spec,Int.reduceEq,or_self,or_true,true_or,or_false,false_or,and_self,and_true,and_false,false_and,true_and,decide_true,decide_false,Bc,Av,Bool.not_true,Bool.not_false,Ea,Eh,Ee,Ed,Bn,Az,reduceCtorEq]<;>grind [hasB,Da]
   by_cases h12:kind=12
   ·subst h12;simp only[Ia,Gx,if_true,if_false,Ay,Ip,Dq,kq6,kv4,kv5,jb4,Jy,l8,Pr.name,Pr.chan,Pr.targets,Pr.exprs,Pr.procs,Pr.spec,Int.reduceEq,or_self,or_true,true_or,or_false,false_or,and_self,and_true,and_false,false_and,true_and,decide_true,decide_false,Bc,Av,Bool.not_true,Bool.not_false,Ea,Eh,Ee,Ed,Bn,Az,reduceCtorEq]<;>grind [hasB,Da]
   by_cases h13:kind=13
   ·subst h13;simp only[Ia,Gx,if_true,if_false,Ay,Ip,Dq,kq6,kv4,kv5,jb4,Jy,l8,Pr.name,Pr.chan,Pr.targets,Pr.exprs,Pr.procs,Pr.spec,Int.reduceEq,or_self,or_true,true_or,or_false,false_or,and_self,and_true,and_false,false_and,true_and,decide_true,decide_false,Bc,Av,Bool.not_true,Bool.not_false,Ea,Eh,Ee,Ed,Bn,Az,reduceCtorEq]<;>grind [hasB,Da]
   by_cases h14:kind=14
   ·subst h14;simp only[Ia,Gx,if_true,if_false,Ay,Ip,Dq,kq6,kv4,kv5,jb4,Jy,l8,Pr.name,Pr.chan,Pr.targets,Pr.exprs,Pr.procs,Pr.spec,Int.reduceEq,or_self,or_true,true_or,or_false,false_or,and_self,and_true,and_false,false_and,true_and,decide_true,decide_false,Bc,Av,Bool.not_true,Bool.not_false,Ea,Eh,Ee,Ed,Bn,Az,reduceCtorEq]<;>grind [hasB,Da]
   by_cases h15:kind=15
   ·subst h15;simp only[Ia,Gx,if_true,if_false,Ay,Ip,Dq,kq6,kv4,kv5,jb4,Jy,l8,Pr.name,Pr.chan,Pr.targets,Pr.exprs,Pr.procs,Pr.spec,Int.reduceEq,or_self,or_true,true_or,or_false,false_or,and_self,and_true,and_false,false_and,true_and,decide_true,decide_false,Bc,Av,Bool.not_true,Bool.not_false,Ea,Eh,Ee,Ed,Bn,Az,reduceCtorEq]<;>grind [hasB,Da]
   by_cases h16:kind=16
   ·subst h16;simp only[Ia,Gx,if_true,if_false,Ay,Ip,Dq,kq6,kv4,kv5,jb4,Jy,l8,Pr.name,Pr.chan,Pr.targets,Pr.exprs,Pr.procs,Pr.spec,Int.reduceEq,or_self,or_true,true_or,or_false,false_or,and_self,and_true,and_false,false_and,true_and,decide_true,decide_false,Bc,Av,Bool.not_true,Bool.not_false,Ea,Eh,Ee,Ed,Bn,Az,reduceCtorEq]<;>grind [hasB,Da]
   by_cases h17:kind=17
   ·subst h17;simp only[Ia,Gx,if_true,if_false,Ay,Ip,Dq,kq6,kv4,kv5,jb4,Jy,l8,Pr.name,Pr.chan,Pr.targets,Pr.exprs,Pr.procs,Pr.spec,Int.reduceEq,or_self,or_true,true_or,or_false,false_or,and_self,and_true,and_false,false_and,true_and,decide_true,decide_false,Bc,Av,Bool.not_true,Bool.not_false,Ea,Eh,Ee,Ed,Bn,Az,reduceCtorEq]<;>grind [hasB,Da]
   by_cases h18:kind=18
   ·subst h18;simp only[Ia,Gx,if_true,if_false,Ay,Ip,Dq,kq6,kv4,kv5,jb4,Jy,l8,Pr.name,Pr.chan,Pr.targets,Pr.exprs,Pr.procs,Pr.spec,Int.reduceEq,or_self,or_true,true_or,or_false,false_or,and_self,and_true,and_false,false_and,true_and,decide_true,decide_false,Bc,Av,Bool.not_true,Bool.not_false,Ea,Eh,Ee,Ed,Bn,Az,reduceCtorEq]<;>grind [hasB,Da]
   simp only[Ia,h1,h2,h3,h4,h5,h6,h7,h8,h9,h10,h11,h12,h13,h14,h15,h16,h17,h18,or_self,Gx,if_false,Av,Az]
mutual
noncomputable def Kr (depth left:Int)(placing:Bool):Pr->Int
 |.mk kind name chan targets exprs rep guards l procs (.mk sk st sn se spp sf sb)=>
  if 32<depth\/left=0\/ownB (.mk kind name chan targets exprs rep guards l procs (.mk sk st sn se spp sf sb))=false\/(kind=11/\placing=false) then -1
  else if kind=18/\sk=4/\spp.cases=true/\32<depth+2 then -1
  else
   let b:=if kind=18/\sk=5 then Jk (depth+1) (left - 1) sb else left - 1
   Kl (depth+2) (Jp (if kind=11 then depth+2 else if kind=18 then depth else depth+1) b (placing && decide (kind=18)) l) guards
noncomputable def Jk (depth left:Int):List Pr->Int
 |[]=>left
 |p::_=>Kr depth left false p
noncomputable def Jp (depth left:Int)(placing:Bool):List Pr->Int
 |[]=>left
 |p::l=>if left<0 then left else Jp depth (Kr depth left placing p) placing l
noncomputable def Kl (depth left:Int):List Gu->Int
 |[]=>left
 |.mk _ _ _ _ _ _ _ body::l=>if left<0 then left else Kl depth (Jk depth left body) l
end
theorem Qo (depth left:Int)(placing:Bool)(h:left<0):∀ l,Jp depth left placing l=left
 |[]=>by rw[Jp]
 |p::l=>by rw[Jp,Ae h]
theorem Oc (depth left:Int)(h:left<0):∀ l,Kl depth left l=left
 |[]=>by rw[Kl]
 |.mk _ _ _ _ _ _ _ body::l=>by rw[Kl,Ae h]
def agree (left:Int)(v:Bool × Int)(r:Int):Prop:=(v.1=true↔0<=r)/\(0<=r->v.2=r/\r<=left)
theorem js7 (s:Sp)(h:Jf s=true):(s.proto.cases=true->s.kind=4)/\(s.kind=5->s.body.length=1)/\(s.kind≠5->s.body=[]):=by
 have hz:∀ q:Pt,eqB q pt0=true->q.cases=true->False:=fun q e c=>by
  rw[k7]at e;rw[e]at c;cases c
 unfold Jf at h;refine⟨fun hc=>?_,fun hk=>?_,fun hk=>?_⟩
 ·have:=hz s.proto
  grind
 ·simp only[hk,Int.reduceEq,if_false,if_true,Ab,Al]at h;exact h.1.1.1.1.1
 ·have:s.body.length=0:=by grind
  exact At this
theorem Oy (p:Pr)(h:ownB p=true)(hk:p.kind=18):Jf p.spec=true:=by
 unfold ownB at h;simp only[hk,Int.reduceEq,or_self,if_false,if_true,Ab]at h;exact h.2.1.1.1.2
theorem Pp (p:Pr)(h:ownB p=true):∀ g∈p.guards,g.body.length=1:=by
 have key:∀ a b lo hi,Dq p.guards a b lo hi=true->∀ g∈p.guards,g.body.length=1:=fun a b lo hi h g hg=>by
  unfold Dq Da at h;have:=Ec.1 (Bool.and_eq_true_iff.1 h).2 g hg;unfold Lh at this
  grind
 have k0:p.guards.length=0->∀ g∈p.guards,g.body.length=1:=fun e g hg=>by
  rw[At e]at hg;cases hg
 unfold ownB at h;dsimp only at h;generalize (if (!decide (p.rep.name=ByteArray.empty))=true then (1:Int) else 0)=least at h;generalize (if (!decide (p.rep.name=ByteArray.empty))=true then (1:Int) else 16)=most at h;have h2:=(Bool.and_eq_true_iff.1 h).2;clear h;have g2:=key 1 16 7 7;have g3:=key 0 16 5 6;by_cases hk:p.kind=1\/p.kind=2
 ·rw[Ae hk]at h2;simp only[Ab,Al]at h2
  first
   |exact k0 h2.1.2
   |exact g2 h2.1.2
   |exact g3 h2.1.2
   |exact key _ _ _ _ h2.1.2
 rw[Af hk]at h2;clear hk;by_cases hk:p.kind=3
 ·rw[Ae hk]at h2;simp only[Ab,Al]at h2
  first
   |exact k0 h2.1.2
   |exact g2 h2.1.2
   |exact g3 h2.1.2
   |exact key _ _ _ _ h2.1.2
 rw[Af hk]at h2;clear hk;by_cases hk:p.kind=4
 ·rw[Ae hk]at h2;simp only[Ab,Al]at h2
  first
   |exact k0 h2.1.2
   |exact g2 h2.1.2
   |exact g3 h2.1.2
   |exact key _ _ _ _ h2.1.2
 rw[Af hk]at h2;clear hk;by_cases hk:p.kind=5
 ·rw[Ae hk]at h2;simp only[Ab,Al]at h2
  first
   |exact k0 h2.1.2
   |exact g2 h2.1.2
   |exact g3 h2.1.2
   |exact key _ _ _ _ h2.1.2
 rw[Af hk]at h2;clear hk;by_cases hk:p.kind=6
 ·rw[Ae hk]at h2;simp only[Ab,Al]at h2
  first
   |exact k0 h2.1.2
   |exact g2 h2.1.2
   |exact g3 h2.1.2
   |exact key _ _ _ _ h2.1.2
 rw[Af hk]at h2;clear hk;by_cases hk:p.kind=7
 ·rw[Ae hk]at h2;simp only[Ab,Al]at h2
  first
   |exact k0 h2.1.2
   |exact g2 h2.1.2
   |exact g3 h2.1.2
   |exact key _ _ _ _ h2.1.2
 rw[Af hk]at h2;clear hk;by_cases hk:p.kind=8\/p.kind=9
 ·rw[Ae hk]at h2;simp only[Ab,Al]at h2
  first
   |exact k0 h2.1.2
   |exact g2 h2.1.2
   |exact g3 h2.1.2
   |exact key _ _ _ _ h2.1.2
 rw[Af hk]at h2;clear hk;by_cases hk:p.kind=10
 ·rw[Ae hk]at h2;simp only[Ab,Al]at h2
  first
   |exact k0 h2.1.2
   |exact g2 h2.1.2
   |exact g3 h2.1.2
   |exact key _ _ _ _ h2.1.2
 rw[Af hk]at h2;clear hk;by_cases hk:p.kind=11
 ·rw[Ae hk]at h2;simp only[Ab,Al]at h2
  first
   |exact k0 h2.1.2
   |exact g2 h2.1.2
   |exact g3 h2.1.2
   |exact key _ _ _ _ h2.1.2
 rw[Af hk]at h2;clear hk;by_cases hk:p.kind=12\/p.kind=13
 ·rw[Ae hk]at h2;simp only[Ab,Al]at h2
  first
   |exact k0 h2.1.2
   |exact g2 h2.1.2
   |exact g3 h2.1.2
   |exact key _ _ _ _ h2.1.2
 rw[Af hk]at h2;clear hk;by_cases hk:p.kind=14
 ·rw[Ae hk]at h2;simp only[Ab,Al]at h2
  first
   |exact k0 h2.1.2
   |exact g2 h2.1.2
   |exact g3 h2.1.2
   |exact key _ _ _ _ h2.1.2
 rw[Af hk]at h2;clear hk;by_cases hk:p.kind=15
 ·rw[Ae hk]at h2;simp only[Ab,Al]at h2
  first
   |exact k0 h2.1.2
   |exact g2 h2.1.2
   |exact g3 h2.1.2
   |exact key _ _ _ _ h2.1.2
 rw[Af hk]at h2;clear hk;by_cases hk:p.kind=16
 ·rw[Ae hk]at h2;simp only[Ab,Al]at h2
  first
   |exact k0 h2.1.2
   |exact g2 h2.1.2
   |exact g3 h2.1.2
   |exact key _ _ _ _ h2.1.2
 rw[Af hk]at h2;clear hk;by_cases hk:p.kind=17
 ·rw[Ae hk]at h2;simp only[Ab,Al]at h2
  first
   |exact k0 h2.1.2
   |exact g2 h2.1.2
   |exact g3 h2.1.2
   |exact key _ _ _ _ h2.1.2
 rw[Af hk]at h2;clear hk;by_cases hk:p.kind=18
 ·rw[Ae hk]at h2;simp only[Ab,Al]at h2
  first
   |exact k0 h2.1.2
   |exact g2 h2.1.2
   |exact g3 h2.1.2
   |exact key _ _ _ _ h2.1.2
 rw[Af hk]at h2;clear hk;cases h2
mutual
theorem Kv:∀ (p:Pr) (depth left:Int) (placing:Bool),0<=left->left<=2048->agree (left - 1) (Fz depth left placing p) (Kr depth left placing p)
 |.mk kind name chan targets exprs rep guards l procs (.mk sk st sn se spp sf sb),depth,left,placing,h0,h1=>by
  rw[Fz,Kr];have hpl:=Np (.mk kind name chan targets exprs rep guards l procs (.mk sk st sn se spp sf sb));by_cases ho:ownB (.mk kind name chan targets exprs rep guards l procs (.mk sk st sn se spp sf sb))=true
  ·have hbody:=Pp _ ho;have hspec:kind=18->_:=fun hk=>js7 _ (Oy _ ho hk);simp only[Pr.spec,Sp.kind,Sp.proto,Sp.body]at hspec;rw[ho]at hpl ⊢;simp only[Bc,Pr.l]at hpl;by_cases hx:32<depth\/left=0\/(kind=11/\placing=false)
   ·rw[Ae (hx.elim (fun h=>.inr (.inl h)) fun h=>h.elim (fun h=>.inl (by omega)) fun h=>.inr (.inr (.inr h))),Ae (hx.elim .inl fun h=>h.elim (fun h=>.inr (.inl h)) fun h=>.inr (.inr (.inr h)))];simp[agree]
   ·rw[Af (c:=32<depth\/left=0\/true=false\/(kind=11/\placing=false)) (fun h=>hx (h.elim .inl fun h=>h.elim (fun h=>.inr (.inl h)) fun h=>h.elim (fun h=>by cases h) fun h=>.inr (.inr h)))];have hc2:(kind=18/\sk=4/\spp.cases=true/\32<depth+2)↔(kind=18/\spp.cases=true/\32<depth+2):=⟨fun h=>⟨h.1,h.2.2⟩,fun h=>⟨h.1,(hspec h.1).1 h.2.1,h.2⟩⟩;by_cases hk2:kind=18/\spp.cases=true/\32<depth+2
    ·rw[Ae (hc2.2 hk2),Ae hk2,ite_self];simp[agree]
    ·rw[Af (fun h=>hk2 (hc2.1 h)),Af hk2];have hb:agree (left - 1) (if kind=18 then Df (depth+1) (left - 1) sb else (true,left - 1)) (if kind=18/\sk=5 then Jk (depth+1) (left - 1) sb else left - 1):=by
      by_cases h18:kind=18
      ·by_cases h5:sk=5
       ·rw[Ae h18,Ae ⟨h18,h5⟩];exact Nt sb (depth+1) (left - 1) (by omega) (by omega)
       ·rw[Ae h18,Af (fun h=>h5 h.2),(hspec h18).2.2 h5,Df];exact⟨⟨fun _=>by omega,fun _=>rfl⟩,fun _=>⟨rfl,Int.le_refl _⟩⟩
      ·rw[Af h18,Af (fun h=>h18 h.1)];exact⟨⟨fun _=>by omega,fun _=>rfl⟩,fun _=>⟨rfl,Int.le_refl _⟩⟩
     dsimp only;generalize (if kind=18 then Df (depth+1) (left - 1) sb else (true,left - 1))=bV at hb ⊢;generalize (if kind=18/\sk=5 then Jk (depth+1) (left - 1) sb else left - 1)=bR at hb ⊢;generalize (if kind=11 then depth+2 else if kind=18 then depth else depth+1)=dep;have fls:∀ v:Bool × Int,∀ r:Int,(v.1=true↔0<=r)->¬0<=r->v.1=false:=fun v r h h2=>by
      cases h3:v.1 with
      |false=>rfl
      |true=>exact absurd (h.1 h3) h2
     by_cases hbr:0<=bR
     ·obtain⟨h2,h3⟩:=hb.2 hbr;have hm:=Oi l dep bR (placing && decide (kind=18)) hbr (by omega);by_cases hmr:0<=Jp dep bR (placing && decide (kind=18)) l
      ·obtain⟨h4,h5⟩:=hm.2 hmr;have hl:l.length<=2048:=by omega
       rw[Af (by rw[hpl];simp[hl];exact⟨by omega,Int.not_lt.1 fun h=>hx (.inl h),fun h=>by cases hq:placing with|true=>rfl|false=>exact absurd (.inr (.inr ⟨h,hq⟩)) hx⟩),Af (by rw[hb.1.2 hbr];simp),h2,Af (by rw[hm.1.2 hmr];simp),h4];have hg:=ju8 guards (depth+2) _ hmr (by omega);exact⟨hg.1,fun h=>⟨(hg.2 h).1,by have:=(hg.2 h).2;omega⟩⟩
      ·have hf:=fls _ _ hm.1 hmr;rw[Oc _ _ (by omega)];refine⟨⟨fun h=>?_,fun h=>absurd h hmr⟩,fun h=>absurd h hmr⟩;rw[Af (c:=bV.1=false) (by rw[hb.1.2 hbr];simp),h2,Ae hf]at h;split at h<;>cases h
     ·have hf:=fls _ _ hb.1 hbr;rw[Qo _ _ _ (by omega),Oc _ _ (by omega)];refine⟨⟨fun h=>?_,fun h=>absurd h hbr⟩,fun h=>absurd h hbr⟩;rw[Ae hf]at h;split at h<;>cases h
  ·have ho':=Bool.eq_false_iff.2 ho;rw[Ae (by rw[hpl,ho'];simp),Ae (by rw[ho'];simp)];simp[agree]
theorem Nt:∀ (l:List Pr) (depth left:Int),0<=left->left<=2048->agree left (Df depth left l) (Jk depth left l)
 |[],depth,left,h0,h1=>by simp[Df,Jk,agree,h0]
 |p::l,depth,left,h0,h1=>by
  have:=Kv p depth left false h0 h1;unfold agree at this ⊢;rw[Df,Jk];exact⟨this.1,fun h=>⟨(this.2 h).1,by have:=(this.2 h).2;omega⟩⟩
theorem Oi:∀ (l:List Pr) (depth left:Int) (placing:Bool),0<=left->left<=2048->agree (left - l.length) (Gg depth left placing l) (Jp depth left placing l)
 |[],depth,left,placing,h0,h1=>by simp[Gg,Jp,agree,h0]
 |p::l,depth,left,placing,h0,h1=>by
  have hp:=Kv p depth left placing h0 h1;unfold agree at hp ⊢;rw[Gg,Jp,Af (show ¬left<0 by omega)];by_cases hr:0<=Kr depth left placing p
  ·obtain⟨h2,h3⟩:=hp.2 hr;have ih:=Oi l depth (Kr depth left placing p) placing hr (by omega);unfold agree at ih;rw[Ae (hp.1.2 hr),h2];refine⟨ih.1,fun h=>⟨(ih.2 h).1,?_⟩⟩;have:=(ih.2 h).2;simp only[Ai];omega
  ·have:(Fz depth left placing p).1=false:=by
    cases h:(Fz depth left placing p).1 with
    |false=>rfl
    |true=>exact absurd (hp.1.1 h) hr
   rw[Af (by rw[this];simp),this,Qo _ _ _ (show Kr depth left placing p<0 by omega)];exact⟨⟨fun h=>(by cases h),fun h=>absurd h hr⟩,fun h=>absurd h hr⟩
theorem ju8:∀ (l:List Gu) (depth left:Int),0<=left->left<=2048->agree left (Ib depth left l) (Kl depth left l)
 |[],depth,left,h0,h1=>by simp[Ib,Kl,agree,h0]
 |.mk _ _ _ _ _ _ _ body::l,depth,left,h0,h1=>by
  have hp:=Nt body depth left h0 h1;unfold agree at hp ⊢;rw[Ib,Kl,Af (show ¬left<0 by omega)];by_cases hr:0<=Jk depth left body
  ·obtain⟨h2,h3⟩:=hp.2 hr;have ih:=ju8 l depth (Jk depth left body) hr (by omega);unfold agree at ih;rw[Ae (hp.1.2 hr),h2];refine⟨ih.1,fun h=>⟨(ih.2 h).1,?_⟩⟩;have:=(ih.2 h).2;omega
  ·have:(Df depth left body).1=false:=by
    cases h:(Df depth left body).1 with
    |false=>rfl
    |true=>exact absurd (hp.1.1 h) hr
   rw[Af (by rw[this];simp),this,Oc _ _ (show Jk depth left body<0 by omega)];exact⟨⟨fun h=>(by cases h),fun h=>absurd h hr⟩,fun h=>absurd h hr⟩
end
end Lx
end
end Go.Proofs.YtdopmfifmgkmoaaGreatDoor
