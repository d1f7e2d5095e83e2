/- Parts: O1, O2, O3, O4. -/
import Derived.Test.YtdopmfifmgkmoaaGreatDoorP18
import Derived.Test.YtdopmfifmgkmoaaGreatDoorP16
set_option linter.all false
set_option maxRecDepth 100000
set_option maxHeartbeats 16000000
namespace Go.Proofs.YtdopmfifmgkmoaaGreatDoor
open Go.RowKit Go.Proofs.Tryz
section
instance decBytes:DecidableEq ByteArray:=fun a b=>decidable_of_iff (a.data.toList=b.data.toList) ⟨fun h=>by
 cases a with|mk a=>cases b with|mk b=>cases a with|mk a=>cases b with|mk b=>exact congrArg (fun l=>ByteArray.mk (Array.mk l)) h,fun h=>by rw[h]⟩
inductive Ex where
 |mk (kind:Int) (op:UInt8) (ty n:Int) (s:ByteArray) (l:List Ex)
mutual
def dEx:Ex->D
 |.mk kind op ty n s l=>.agg [.int .u8 kind,.int .u8 op.toNat,.int .u8 ty,.int .i32 n,.str s,.list 6 (qz0 l)]
def qz0:List Ex->List D
 |[]=>[]
 |e::l=>dEx e::qz0 l
end
theorem me6:∀ l:List Ex,qz0 l=l.map dEx
 |[]=>by simp[qz0]
 |e::l=>by rw[qz0,me6 l];rfl
def Ex.kind:Ex->Int|.mk k _ _ _ _ _=>k
def Ex.op:Ex->Int|.mk _ o _ _ _ _=>o.toNat
def Ex.ty:Ex->Int|.mk _ _ t _ _ _=>t
def Ex.n:Ex->Int|.mk _ _ _ n _ _=>n
def Ex.s:Ex->ByteArray|.mk _ _ _ _ s _=>s
def Ex.l:Ex->List Ex|.mk _ _ _ _ _ l=>l
def dE (e:Ex):D:=.agg [.int .u8 e.kind,.int .u8 e.op,.int .u8 e.ty,.int .i32 e.n,.str e.s,.list 6 (e.l.map dEx)]
theorem r9:dEx=dE:=by
 funext e
 cases e
 simp only[dEx,dE,Ex.kind,Ex.op,Ex.ty,Ex.n,Ex.s,Ex.l,me6]
mutual
def exN:Ex->Nat
 |.mk _ _ _ _ _ l=>exsN l+1
def exsN:List Ex->Nat
 |[]=>0
 |e::l=>exN e+exsN l
end
theorem jq6:∀ e:Ex,1<=exN e
 |.mk _ _ _ _ _ l=>by simp[exN]
theorem jd9:∀ l:List Ex,l.length<=exsN l
 |[]=>by simp[exsN]
 |e::l=>by have:=jd9 l;have:=jq6 e;simp only[List.length_cons,exsN];omega
theorem ja6:∀ (l:List Ex) (j:Nat) (hj:j<l.length),exsN (l.take j)+exN l[j]<=exsN l
 |[],_,h=>by simp at h
 |e::l,0,_=>by simp[exsN]
 |e::l,j+1,h=>by
  have:=ja6 l j (by simpa using h)
  simp only[List.take_succ_cons,exsN,List.getElem_cons_succ]
  omega
theorem js7 {e:Ex}:∀ {l:List Ex},e∈l->exN e<=exsN l
 |x::l,h=>by
  rcases List.mem_cons.1 h with rfl|h
  ·simp only[exsN];omega
  ·have:=js7 h;simp only[exsN];omega
theorem qf9 (e:Ex):exN e=exsN e.l+1:=by cases e;rfl
def ex0:Ex:=.mk 0 0 0 0 ByteArray.empty []
structure Ty where
 kind:Int
 dim:Int
 item:Int
 proto:ByteArray
def dTy (t:Ty):D:=.agg [.int .u8 t.kind,.int .i64 t.dim,.int .u8 t.item,.str t.proto]
def ty0:Ty:=⟨0,0,0,ByteArray.empty⟩
structure Va where
 tag:ByteArray
 items:List Int
def dVa (v:Va):D:=.agg [.str v.tag,.list 1 (v.items.map (.int .u8))]
structure Pt where
 cases:Bool
 l:List Va
def dPt (p:Pt):D:=.agg [.bool p.cases,.list 2 (p.l.map dVa)]
def pt0:Pt:=⟨false,[]⟩
structure Fo where
 val:Bool
 type:Ty
 name:ByteArray
def dFo (f:Fo):D:=.agg [.bool f.val,.int .u8 f.type.kind,.int .i64 f.type.dim,.int .u8 f.type.item,.str f.type.proto,.str f.name]
structure Rp where
 name:ByteArray
 base:Ex
 count:Ex
def dRp (r:Rp):D:=.agg [.str r.name,.int .u8 r.base.kind,.int .u8 r.base.op,.int .u8 r.base.ty,.int .i32 r.base.n,.str r.base.s,.list 6 (r.base.l.map dEx),
 .int .u8 r.count.kind,.int .u8 r.count.op,.int .u8 r.count.ty,.int .i32 r.count.n,.str r.count.s,.list 6 (r.count.l.map dEx)]
def rp0:Rp:=⟨ByteArray.empty,ex0,ex0⟩
mutual
inductive Pr where
 |mk (kind:Int) (name:ByteArray) (chan:Ex) (targets exprs:List Ex) (rep:Rp) (guards:List Gu) (l:List Pr) (procs:List Int) (spec:Sp)
inductive Gu where
 |mk (kind:Int) (name:ByteArray) (cond chan:Ex) (targets values:List Ex) (time:Ex) (body:List Pr)
inductive Sp where
 |mk (kind:Int) (type:Ty) (names:List ByteArray) (e:Ex) (proto:Pt) (formals:List Fo) (body:List Pr)
end
namespace Pr
def kind:Pr->Int|mk k _ _ _ _ _ _ _ _ _=>k
def name:Pr->ByteArray|mk _ x _ _ _ _ _ _ _ _=>x
def chan:Pr->Ex|mk _ _ x _ _ _ _ _ _ _=>x
def targets:Pr->List Ex|mk _ _ _ x _ _ _ _ _ _=>x
def exprs:Pr->List Ex|mk _ _ _ _ x _ _ _ _ _=>x
def rep:Pr->Rp|mk _ _ _ _ _ x _ _ _ _=>x
def guards:Pr->List Gu|mk _ _ _ _ _ _ x _ _ _=>x
def l:Pr->List Pr|mk _ _ _ _ _ _ _ x _ _=>x
def procs:Pr->List Int|mk _ _ _ _ _ _ _ _ x _=>x
def spec:Pr->Sp|mk _ _ _ _ _ _ _ _ _ x=>x
end Pr
namespace Gu
def kind:Gu->Int|mk x _ _ _ _ _ _ _=>x
def name:Gu->ByteArray|mk _ x _ _ _ _ _ _=>x
def cond:Gu->Ex|mk _ _ x _ _ _ _ _=>x
def chan:Gu->Ex|mk _ _ _ x _ _ _ _=>x
def targets:Gu->List Ex|mk _ _ _ _ x _ _ _=>x
def values:Gu->List Ex|mk _ _ _ _ _ x _ _=>x
def time:Gu->Ex|mk _ _ _ _ _ _ x _=>x
def body:Gu->List Pr|mk _ _ _ _ _ _ _ x=>x
end Gu
namespace Sp
def kind:Sp->Int|mk x _ _ _ _ _ _=>x
def type:Sp->Ty|mk _ x _ _ _ _ _=>x
def names:Sp->List ByteArray|mk _ _ x _ _ _ _=>x
def e:Sp->Ex|mk _ _ _ x _ _ _=>x
def proto:Sp->Pt|mk _ _ _ _ x _ _=>x
def formals:Sp->List Fo|mk _ _ _ _ _ x _=>x
def body:Sp->List Pr|mk _ _ _ _ _ _ x=>x
end Sp
def sp0:Sp:=.mk 0 ty0 [] ex0 pt0 [] []
def pr0:Pr:=.mk 0 ByteArray.empty ex0 [] [] rp0 [] [] [] sp0
def gu0:Gu:=.mk 0 ByteArray.empty ex0 ex0 [] [] ex0 []
mutual
def dPr:Pr->D
 |.mk kind name chan targets exprs rep guards l procs (.mk sk st sn se spp sf sb)=>.agg [.int .u8 kind,.str name,
  .int .u8 chan.kind,.int .u8 chan.op,.int .u8 chan.ty,.int .i32 chan.n,.str chan.s,.list 6 (chan.l.map dEx),
  .list 6 (targets.map dEx),.list 6 (exprs.map dEx),
  .str rep.name,.int .u8 rep.base.kind,.int .u8 rep.base.op,.int .u8 rep.base.ty,.int .i32 rep.base.n,.str rep.base.s,.list 6 (rep.base.l.map dEx),
  .int .u8 rep.count.kind,.int .u8 rep.count.op,.int .u8 rep.count.ty,.int .i32 rep.count.n,.str rep.count.s,.list 6 (rep.count.l.map dEx),
  .list 23 (qz1 guards),.list 42 (qr5 l),.list 1 (procs.map (.int .i64)),
  .int .u8 sk,.int .u8 st.kind,.int .i64 st.dim,.int .u8 st.item,.str st.proto,.list 1 (sn.map .str),
  .int .u8 se.kind,.int .u8 se.op,.int .u8 se.ty,.int .i32 se.n,.str se.s,.list 6 (se.l.map dEx),
  .bool spp.cases,.list 2 (spp.l.map dVa),.list 6 (sf.map dFo),.list 42 (qr5 sb)]
def qr5:List Pr->List D
 |[]=>[]
 |p::l=>dPr p::qr5 l
def dGu:Gu->D
 |.mk kind name cond chan targets values time body=>.agg [.int .u8 kind,.str name,
  .int .u8 cond.kind,.int .u8 cond.op,.int .u8 cond.ty,.int .i32 cond.n,.str cond.s,.list 6 (cond.l.map dEx),
  .int .u8 chan.kind,.int .u8 chan.op,.int .u8 chan.ty,.int .i32 chan.n,.str chan.s,.list 6 (chan.l.map dEx),
  .list 6 (targets.map dEx),.list 6 (values.map dEx),
  .int .u8 time.kind,.int .u8 time.op,.int .u8 time.ty,.int .i32 time.n,.str time.s,.list 6 (time.l.map dEx),
  .list 42 (qr5 body)]
def qz1:List Gu->List D
 |[]=>[]
 |g::l=>dGu g::qz1 l
end
theorem ko8:∀ l:List Pr,qr5 l=l.map dPr
 |[]=>by simp[qr5]
 |e::l=>by rw[qr5,ko8 l];rfl
theorem me7:∀ l:List Gu,qz1 l=l.map dGu
 |[]=>by simp[qz1]
 |e::l=>by rw[qz1,me7 l];rfl
def dP (p:Pr):D:=.agg [.int .u8 p.kind,.str p.name,
    .int .u8 p.chan.kind,.int .u8 p.chan.op,.int .u8 p.chan.ty,.int .i32 p.chan.n,.str p.chan.s,.list 6 (p.chan.l.map dEx),
    .list 6 (p.targets.map dEx),.list 6 (p.exprs.map dEx),
    .str p.rep.name,.int .u8 p.rep.base.kind,.int .u8 p.rep.base.op,.int .u8 p.rep.base.ty,.int .i32 p.rep.base.n,.str p.rep.base.s,.list 6 (p.rep.base.l.map dEx),
    .int .u8 p.rep.count.kind,.int .u8 p.rep.count.op,.int .u8 p.rep.count.ty,.int .i32 p.rep.count.n,.str p.rep.count.s,.list 6 (p.rep.count.l.map dEx),
    .list 23 (p.guards.map dGu),.list 42 (p.l.map dPr),.list 1 (p.procs.map (.int .i64)),
    .int .u8 p.spec.kind,.int .u8 p.spec.type.kind,.int .i64 p.spec.type.dim,.int .u8 p.spec.type.item,.str p.spec.type.proto,.list 1 (p.spec.names.map .str),
    .int .u8 p.spec.e.kind,.int .u8 p.spec.e.op,.int .u8 p.spec.e.ty,.int .i32 p.spec.e.n,.str p.spec.e.s,.list 6 (p.spec.e.l.map dEx),
    .bool p.spec.proto.cases,.list 2 (p.spec.proto.l.map dVa),.list 6 (p.spec.formals.map dFo),.list 42 (p.spec.body.map dPr)]
def dG (g:Gu):D:=.agg [.int .u8 g.kind,.str g.name,
    .int .u8 g.cond.kind,.int .u8 g.cond.op,.int .u8 g.cond.ty,.int .i32 g.cond.n,.str g.cond.s,.list 6 (g.cond.l.map dEx),
    .int .u8 g.chan.kind,.int .u8 g.chan.op,.int .u8 g.chan.ty,.int .i32 g.chan.n,.str g.chan.s,.list 6 (g.chan.l.map dEx),
    .list 6 (g.targets.map dEx),.list 6 (g.values.map dEx),
    .int .u8 g.time.kind,.int .u8 g.time.op,.int .u8 g.time.ty,.int .i32 g.time.n,.str g.time.s,.list 6 (g.time.l.map dEx),
    .list 42 (g.body.map dPr)]
def dSp (s:Sp):D:=.agg [.int .u8 s.kind,.int .u8 s.type.kind,.int .i64 s.type.dim,.int .u8 s.type.item,.str s.type.proto,.list 1 (s.names.map .str),
    .int .u8 s.e.kind,.int .u8 s.e.op,.int .u8 s.e.ty,.int .i32 s.e.n,.str s.e.s,.list 6 (s.e.l.map dEx),
    .bool s.proto.cases,.list 2 (s.proto.l.map dVa),.list 6 (s.formals.map dFo),.list 42 (s.body.map dPr)]
theorem x5:dPr=dP:=by
 funext p
 obtain⟨_,_,_,_,_,_,_,_,_,⟨⟩⟩:=p
 simp only[dPr,dP,Pr.kind,Pr.name,Pr.chan,Pr.targets,Pr.exprs,Pr.rep,Pr.guards,Pr.l,Pr.procs,Pr.spec,Sp.kind,Sp.type,Sp.names,Sp.e,Sp.proto,Sp.formals,Sp.body,ko8,me7]
theorem jg4:dGu=dG:=by
 funext g
 cases g
 simp only[dGu,dG,Gu.kind,Gu.name,Gu.cond,Gu.chan,Gu.targets,Gu.values,Gu.time,Gu.body,ko8]
end
section
namespace Lx
def letter (c:UInt8):Bool:=decide (97<=c.toNat/\c.toNat<=122) || decide (65<=c.toNat/\c.toNat<=90)
def digit (c:UInt8):Bool:=decide (48<=c.toNat/\c.toNat<=57)
def wordB (c:UInt8):Bool:=letter c || digit c || decide (c.toNat=46)
def run:List UInt8->Nat
 |[]=>0
 |c::l=>if wordB c then run l+1 else 0
def keys:List ByteArray:=[⟨#[65,70,84,69,82]⟩,⟨#[65,76,84]⟩,⟨#[65,78,68]⟩,⟨#[66,79,79,76]⟩,⟨#[66,89,84,69]⟩,⟨#[67,65,83,69]⟩,⟨#[67,72,65,78]⟩,⟨#[69,76,83,69]⟩,⟨#[70,65,76,83,69]⟩,⟨#[70,79,82]⟩,⟨#[73,70]⟩,⟨#[73,78,84]⟩,⟨#[73,83]⟩,⟨#[77,73,78,85,83]⟩,⟨#[78,79,84]⟩,⟨#[79,70]⟩,⟨#[79,82]⟩,⟨#[80,65,82]⟩,⟨#[80,76,65,67,69,68]⟩,⟨#[80,76,85,83]⟩,⟨#[80,82,73]⟩,⟨#[80,82,79,67]⟩,⟨#[80,82,79,67,69,83,83,79,82]⟩,⟨#[80,82,79,84,79,67,79,76]⟩,⟨#[83,69,81]⟩,⟨#[83,73,90,69]⟩,⟨#[83,75,73,80]⟩,⟨#[83,84,79,80]⟩,⟨#[84,73,77,69,82]⟩,⟨#[84,73,77,69,83]⟩,⟨#[84,82,85,69]⟩,⟨#[86,65,76]⟩,⟨#[87,72,73,76,69]⟩]
def isKey (s:ByteArray):Bool:=keys.any fun k=>decide (k=s)
def isName (s:ByteArray):Bool:=match s.data.toList with
 |[]=>false
 |c::l=>decide (l.length<32) && letter c && l.all wordB && !isKey s
theorem qn5:∀ l:List UInt8,run l<=l.length
 |[]=>Nat.le_refl _
 |c::l=>by
  have:=qn5 l
  simp only[run,List.length_cons]
  split<;>omega
theorem run_all:∀ l:List UInt8,run l=l.length↔l.all wordB=true
 |[]=>by simp[run]
 |c::l=>by
  have h1:=run_all l
  have h2:=qn5 l
  simp only[run,List.length_cons,List.all_cons,Bool.and_eq_true,<-h1]
  split<;>simp_all
end Lx
end
section
open Classical in
noncomputable def eqB {α:Type}(a b:α):Bool:=decide (a=b)
theorem j9 {α:Type}{a b:α}:eqB a b=true↔a=b:=by simp[eqB]
theorem r8 {α:Type}{a b:α}:eqB a b=false↔a≠b:=by simp[eqB]
namespace Lx
def prim (k:Int):Bool:=decide (k=1) || decide (k=2) || decide (k=3)
def tyMay (t:Ty):Bool:=
 decide (0<=t.dim/\t.dim<=64) && (if prim t.kind then decide (t.item=0) && decide (t.proto=ByteArray.empty)
  else if t.kind=4 then (if t.item=0 then isName t.proto else prim t.item && decide (t.proto=ByteArray.empty))
  else decide (t.kind=5/\t.dim=0/\t.item=0/\t.proto=ByteArray.empty))
def itemsMay (l:List Int)(least:Int):Bool:=decide (least<=l.length/\(l.length:Int)<=8) && l.all prim
def vasMay (pre:List Va):List Va->Bool
 |[]=>true
 |v::l=>isName v.tag && itemsMay v.items 0 && !(pre.any fun w=>decide (w.tag=v.tag)) && vasMay (pre++[v]) l
def ptMay (p:Pt):Bool:=if p.cases then decide (1<=p.l.length/\p.l.length<=16) && vasMay [] p.l else match p.l with
 |[v]=>decide (v.tag=ByteArray.empty) && itemsMay v.items 1
 |_=>false
def exParts (kind op ty n:Int)(s:ByteArray):Int × Bool:=
 if kind=1 then (0,decide (op=0/\ty=0/\s=ByteArray.empty))
 else if kind=2 then (if 0<=n/\n<=255 then (0,decide (op=0/\ty=0/\s=ByteArray.empty)) else (0,false))
 else if kind=3 then (if 0<=n/\n<=1 then (0,decide (op=0/\ty=0/\s=ByteArray.empty)) else (0,false))
 else if kind=4\/kind=9\/kind=5 then (if isName s then (if kind=5 then 1 else 0,decide (op=0/\ty=0/\n=0)) else (0,false))
 else if kind=6 then (if 23<=op/\op<=26 then (1,decide (ty=0/\n=0/\s=ByteArray.empty)) else (0,false))
 else if kind=7 then (if 1<=op/\op<=22 then (2,decide (ty=0/\n=0/\s=ByteArray.empty)) else (0,false))
 else if kind=8 then (if prim ty then (1,decide (op=0/\n=0/\s=ByteArray.empty)) else (0,false))
 else (0,false)
def exOwn (e:Ex):Bool:=(exParts e.kind e.op e.ty e.n e.s).2 && decide ((e.l.length:Int)=(exParts e.kind e.op e.ty e.n e.s).1)
mutual
def visitOf (deep left:Int):Ex->Bool × Int
 |.mk kind op ty n s l=>
  if exOwn (.mk kind op ty n s l)=false\/left - 1<0\/32<deep then (false,left - 1) else visitsOf (deep+1) (left - 1) l
def visitsOf (deep left:Int):List Ex->Bool × Int
 |[]=>(true,left)
 |e::l=>if (visitOf deep left e).1 then visitsOf deep (visitOf deep left e).2 l else visitOf deep left e
end
mutual
def roomOf (inside left:Int):Ex->Int
 |.mk kind op ty n s l=>
  if inside=32\/left=0\/exOwn (.mk kind op ty n s l)=false then -1 else roomsOf (inside+1) (left - 1) l
def roomsOf (inside left:Int):List Ex->Int
 |[]=>left
 |e::l=>if roomOf inside left e<0 then -1 else roomsOf inside (roomOf inside left e) l
end
def exMay (e:Ex):Bool:=(visitOf 1 256 e).1
mutual
theorem visit_room:∀ (e:Ex) (inside left:Int),0<=left->0<=inside->inside<=32->
 ((visitOf (inside+1) left e).1=true↔0<=roomOf inside left e)/\(0<=roomOf inside left e->(visitOf (inside+1) left e).2=roomOf inside left e/\roomOf inside left e<=left - 1)
 |.mk kind op ty n s l,inside,left,h0,h1,h2=>by
  by_cases hc:inside=32\/left=0\/exOwn (.mk kind op ty n s l)=false
  ·have e1:visitOf (inside+1) left (.mk kind op ty n s l)=(false,left - 1):=by rw[visitOf,if_pos (hc.elim (fun h=>.inr (.inr (by omega))) fun h=>h.elim (fun h=>.inr (.inl (by omega))) .inl)]
   have e2:roomOf inside left (.mk kind op ty n s l)=-1:=by rw[roomOf,if_pos hc]
   rw[e1,e2]
   simp
  ·have e1:visitOf (inside+1) left (.mk kind op ty n s l)=visitsOf (inside+1+1) (left - 1) l:=by rw[visitOf,if_neg (fun h=>hc (h.elim (fun h=>.inr (.inr h)) fun h=>h.elim (fun h=>.inr (.inl (by omega))) fun h=>.inl (by omega)))]
   have e2:roomOf inside left (.mk kind op ty n s l)=roomsOf (inside+1) (left - 1) l:=by rw[roomOf,if_neg hc]
   rw[e1,e2]
   exact jy3 l (inside+1) (left - 1) (by omega) (by omega) (by omega)
theorem jy3:∀ (l:List Ex) (inside left:Int),0<=left->0<=inside->inside<=32->
 ((visitsOf (inside+1) left l).1=true↔0<=roomsOf inside left l)/\(0<=roomsOf inside left l->(visitsOf (inside+1) left l).2=roomsOf inside left l/\roomsOf inside left l<=left)
 |[],inside,left,h0,h1,h2=>by simp[visitsOf,roomsOf,h0]
 |e::l,inside,left,h0,h1,h2=>by
  have h3:=visit_room e inside left h0 h1 h2
  by_cases hr:roomOf inside left e<0
  ·have hf:(visitOf (inside+1) left e).1=false:=by
    cases h:(visitOf (inside+1) left e).1 with
    |false=>rfl
    |true=>have:=h3.1.1 h;omega
   have e2:roomsOf inside left (e::l)=-1:=by rw[roomsOf,if_pos hr]
   have e1:visitsOf (inside+1) left (e::l)=visitOf (inside+1) left e:=by rw[visitsOf,hf];rfl
   rw[e1,e2,hf]
   simp
  ·have h5:=h3.2 (by omega)
   have e2:roomsOf inside left (e::l)=roomsOf inside (roomOf inside left e) l:=by rw[roomsOf,if_neg hr]
   have e1:visitsOf (inside+1) left (e::l)=visitsOf (inside+1) (roomOf inside left e) l:=by rw[visitsOf,h3.1.2 (by omega),if_pos rfl,h5.1]
   rw[e1,e2]
   have h6:=jy3 l inside (roomOf inside left e) (by omega) h1 h2
   exact⟨h6.1,fun h=>⟨(h6.2 h).1,by have:=(h6.2 h).2;omega⟩⟩
end
theorem exMay_room (e:Ex):exMay e=true↔0<=roomOf 0 256 e:=(visit_room e 0 256 (by omega) (by omega) (by omega)).1
end Lx
end
section
namespace Lx
noncomputable def noneB (e:Ex):Bool:=eqB e ex0
def elemB (e:Ex):Bool:=(decide (e.kind=4) || decide (e.kind=5)) && exMay e
def primT (t:Ty):Bool:=tyMay t && decide (t.dim=0) && prim t.kind
noncomputable def repMay (r:Rp):Bool:=if r.name=ByteArray.empty then noneB r.base && noneB r.count else isName r.name && exMay r.base && exMay r.count
def foMay (f:Fo):Bool:=isName f.name && tyMay f.type && (!f.val || primT f.type)
def hasB (a b:Int)(n:Nat):Bool:=decide (a<=n) && decide ((n:Int)<=b)
def eachB {α:Type}(l:List α)(a b:Int)(p:α->Bool):Bool:=hasB a b l.length && l.all p
noncomputable def guMay (g:Gu):Bool:=
 decide (g.kind≠0) && decide (g.kind<=7) && decide (g.body.length=1) &&
 (if g.kind=1\/g.kind=2\/g.kind=3\/g.kind=4 then (exMay g.cond || ((decide (g.kind=3) || decide (g.kind=4)) && noneB g.cond)) else noneB g.cond) &&
 (if g.kind=7 then isName g.name else decide (g.name=ByteArray.empty)) &&
 (if g.kind=3\/g.kind=4 then elemB g.chan else noneB g.chan) &&
 (if g.kind=4 then exMay g.time else noneB g.time) &&
 eachB g.targets (if g.kind=3 then 1 else 0) (if g.kind=3\/g.kind=7 then 8 else 0) elemB &&
 eachB g.values (if g.kind=5 then 1 else 0) (if g.kind=5 then 8 else 0) exMay
noncomputable def spMay (s:Sp):Bool:=
 if s.kind=1 then tyMay s.type && eachB s.names 1 8 isName && noneB s.e && eqB s.proto pt0 && decide (s.formals.length=0) && decide (s.body.length=0)
 else if s.kind=2 then primT s.type && exMay s.e && eachB s.names 1 1 isName && eqB s.proto pt0 && decide (s.formals.length=0) && decide (s.body.length=0)
 else if s.kind=3 then primT s.type && elemB s.e && eachB s.names 1 1 isName && eqB s.proto pt0 && decide (s.formals.length=0) && decide (s.body.length=0)
 else if s.kind=4 then ptMay s.proto && eachB s.names 1 1 isName && eqB s.type ty0 && noneB s.e && decide (s.formals.length=0) && decide (s.body.length=0)
 else if s.kind=5 then decide (s.body.length=1) && eachB s.formals 0 8 foMay && eachB s.names 1 1 isName && eqB s.type ty0 && noneB s.e && eqB s.proto pt0
 else false
structure Uses where
 rep:Bool
 name:Bool
 channel:Bool
 spec:Bool
 procs:Bool
 t0:Int
 t1:Int
 e0:Int
 e1:Int
 p0:Int
 p1:Int
 g0:Int
 g1:Int
 a:Int
 b:Int
def uses0:Uses:=⟨false,false,false,false,false,0,0,0,0,0,0,0,0,0,0⟩
def usesOf (k:Int):Uses × Bool:=
 if k=1\/k=2 then (uses0,true)
 else if k=3 then ({uses0 with t0:=1,t1:=8,e0:=1,e1:=8},true)
 else if k=4 then ({uses0 with channel:=true,t0:=1,t1:=8},true)
 else if k=5 then ({uses0 with channel:=true,e0:=1,e1:=9},true)
 else if k=6 then ({uses0 with channel:=true,e0:=1,e1:=1},true)
 else if k=7 then ({uses0 with channel:=true,g0:=1,g1:=16,a:=7,b:=7},true)
 else if k=8\/k=9 then ({uses0 with rep:=true,p0:=0,p1:=2048},true)
 else if k=10 then ({uses0 with p0:=2,p1:=2},true)
 else if k=11 then ({uses0 with procs:=true,p0:=1,p1:=8},true)
 else if k=12\/k=13 then ({uses0 with rep:=true,g0:=0,g1:=16,a:=2,b:=4},true)
 else if k=14 then ({uses0 with rep:=true,g0:=0,g1:=16,a:=1,b:=1},true)
 else if k=15 then ({uses0 with e0:=1,e1:=1,g0:=0,g1:=16,a:=5,b:=6},true)
 else if k=16 then ({uses0 with e0:=1,e1:=1,p0:=1,p1:=1},true)
 else if k=17 then ({uses0 with name:=true,e0:=0,e1:=8},true)
 else if k=18 then ({uses0 with spec:=true,p0:=1,p1:=1},true)
 else (uses0,false)
def usesRep (u:Uses)(r:ByteArray):Uses:=if r=ByteArray.empty then u else if u.p0=0/\u.p1=2048 then {u with p0:=1,p1:=1} else {u with g0:=1,g1:=1}
noncomputable def plainB (p:Pr):Bool:=
 (usesOf p.kind).2 && repMay p.rep && (decide (p.rep.name=ByteArray.empty) || (usesOf p.kind).1.rep) &&
 (let u:=usesRep (usesOf p.kind).1 p.rep.name
  hasB u.p0 u.p1 p.l.length && eachB p.guards u.g0 u.g1 (fun g=>decide (u.a<=g.kind) && decide (g.kind<=u.b) && guMay g) &&
  (if u.name then isName p.name else decide (p.name=ByteArray.empty)) &&
  (if u.channel then elemB p.chan else noneB p.chan) &&
  eachB p.targets u.t0 u.t1 elemB && eachB p.exprs u.e0 u.e1 exMay &&
  eachB p.procs (if u.procs then p.l.length else 0) (if u.procs then p.l.length else 0) (fun n=>decide (0<=n) && decide (n<8)) &&
  (if u.spec then spMay p.spec else eqB p.spec sp0))
mutual
noncomputable def prVisit (depth left:Int)(placing:Bool):Pr->Bool × Int
 |.mk kind name chan targets exprs rep guards l procs (.mk sk st sn se spp sf sb)=>
  if left - 1<0\/32<depth\/plainB (.mk kind name chan targets exprs rep guards l procs (.mk sk st sn se spp sf sb))=false\/(kind=11/\placing=false) then (false,left - 1)
  else if kind=18/\spp.cases=true/\32<depth+2 then (false,left - 1)
  else
   let b:=if kind=18 then headVisit (depth+1) (left - 1) sb else (true,left - 1)
   if b.1=false then (false,b.2)
   else
    let m:=prsVisit (if kind=11 then depth+2 else if kind=18 then depth else depth+1) b.2 (placing && decide (kind=18)) l
    if m.1=false then (false,m.2) else gusVisit (depth+2) m.2 guards
noncomputable def headVisit (depth left:Int):List Pr->Bool × Int
 |[]=>(true,left)
 |p::_=>prVisit depth left false p
noncomputable def prsVisit (depth left:Int)(placing:Bool):List Pr->Bool × Int
 |[]=>(true,left)
 |p::l=>if (prVisit depth left placing p).1 then prsVisit depth (prVisit depth left placing p).2 placing l else prVisit depth left placing p
noncomputable def gusVisit (depth left:Int):List Gu->Bool × Int
 |[]=>(true,left)
 |.mk _ _ _ _ _ _ _ body::l=>if (headVisit depth left body).1 then gusVisit depth (headVisit depth left body).2 l else headVisit depth left body
end
noncomputable def prMay (p:Pr):Bool:=(prVisit 0 2048 true p).1
end Lx
end
end Go.Proofs.YtdopmfifmgkmoaaGreatDoor
