/- Parts: RSRename. -/
import Derived.Test.YtdopmfifmgkmoaaGreatDoorP43
import Derived.Test.YtdopmfifmgkmoaaGreatDoorKRenameA3
import Derived.Deep.DeepHandedRow
set_option linter.all false
set_option maxRecDepth 100000
set_option maxHeartbeats 16000000
namespace Go.Proofs.YtdopmfifmgkmoaaGreatDoor
open Go.RowKit Go.Proofs.Tryz
section
open Go.ChangeShapes Go.WideShapes Go.ChangeAt Go.RowKit
theorem kq3:∀ l:List D,(∀ x∈l,1<=dsz x)->l.length<=Lc l
 |[],_=>As _
 |x::l,h=>by
  have h1:=h x Bi;have h2:=kq3 l fun y hy=>h y (Bk _ hy);simp only[Ai,Lc];omega
theorem qm5 (l:List Fo):l.length<=Lc (l.map dFo):=by
 have:=kq3 (l.map dFo) fun x hx=>by
  obtain⟨f,_,rfl⟩:=Bs.1 hx;simp only[dFo,dsz,Lc];omega
 simpa using this
theorem qm6 (l:List Va):l.length<=Lc (l.map dVa):=by
 have:=kq3 (l.map dVa) fun x hx=>by
  obtain⟨f,_,rfl⟩:=Bs.1 hx;simp only[dVa,dsz,Lc];omega
 simpa using this
mutual
theorem kx5:∀ p:Pr,(Sc.Fy p).length<=dsz (dPr p)
 |.mk kind name chan targets exprs rep guards l procs (.mk sk st sn se spp sf sb)=>by
  have h1:=jp4 l;have h2:=km7 guards;have h3:=jp4 sb;have h4:=qm5 sf;have h5:=qm6 spp.l;simp only[Sc.Fy,dPr,dsz,Lc,Ag,Aa,Ai,Aq];omega
theorem jp4:∀ l:List Pr,(Sc.Fx l).length<=Lc (ql2 l)
 |[]=>by simp[Sc.Fx,ql2,Lc]
 |p::l=>by
  have h1:=kx5 p;have h2:=jp4 l;simp only[Sc.Fx,ql2,Lc,Ag];omega
theorem km7:∀ l:List Gu,(Sc.Gj l).length<=Lc (qw2 l)
 |[]=>by simp[Sc.Gj,qw2,Lc]
 |.mk kind name cond chan targets values time body::l=>by
  have h1:=jp4 body;have h2:=km7 l;simp only[Sc.Gj,Sc.Rm,qw2,dGu,dsz,Lc,Ag,Ai];omega
end
set_option maxRecDepth 100000 in
theorem kk8 (os:Os)(started:os.Started)(H:Type)(enc:TypeId × Value->H)(F:Stop.Interp):
 ReturnsInHanded {} Tryz.checked os 9 .any ((Rows.OpenSpec.upto Rows.scopeRenameSpec).preRow enc prog Tryz.f9 Rows.scopeRenameUptoRow.domain false Rows.scopeRenameUptoRow.laid)
  (((Rows.OpenSpec.upto Rows.scopeRenameSpec).at F).post enc prog Tryz.f9 false true false false):=by
 refine returnsInHanded_of_row (C:=Tryz.checked) (s:=Rows.OpenSpec.upto Rows.scopeRenameSpec) jw8 started (by kernel_rfl) func9
  (witness_row_at (enc:=enc) (C:=Tryz.checked) false (World.laidAll prog os jk7) #[.agg #[.int .u8 0,.string ⟨#[]⟩,.int .u8 0,.int .u8 0,.int .u8 0,.int .i32 0,.string ⟨#[]⟩,.slice none 0 0,.slice none 0 0,.slice none 0 0,.string ⟨#[]⟩,.int .u8 0,.int .u8 0,.int .u8 0,.int .i32 0,.string ⟨#[]⟩,.slice none 0 0,.int .u8 0,.int .u8 0,.int .u8 0,.int .i32 0,.string ⟨#[]⟩,.slice none 0 0,.slice none 0 0,.slice none 0 0,.slice none 0 0,.int .u8 0,.int .u8 0,.int .i64 0,.int .u8 0,.string ⟨#[]⟩,.slice none 0 0,.int .u8 0,.int .u8 0,.int .u8 0,.int .i32 0,.string ⟨#[]⟩,.slice none 0 0,.bool false,.slice none 0 0,.slice none 0 0,.slice none 0 0],.string ⟨#[]⟩] (World.laidAll_os _ _ _) (by kernel_rfl) (by kernel_rfl) (by kernel_rfl)
    (OpenSpec.preRow_of_cond (x:=([.agg [.lit (.int .u8 0),.lit (.string []),.agg [.lit (.int .u8 0),.lit (.int .u8 0),.lit (.int .u8 0),.lit (.int .i32 0),.lit (.string []),.nil],.nil,.nil,.agg [.lit (.string []),.agg [.lit (.int .u8 0),.lit (.int .u8 0),.lit (.int .u8 0),.lit (.int .i32 0),.lit (.string []),.nil],.agg [.lit (.int .u8 0),.lit (.int .u8 0),.lit (.int .u8 0),.lit (.int .i32 0),.lit (.string []),.nil]],.nil,.nil,.nil,.agg [.lit (.int .u8 0),.agg [.lit (.int .u8 0),.lit (.int .i64 0),.lit (.int .u8 0),.lit (.string [])],.nil,.agg [.lit (.int .u8 0),.lit (.int .u8 0),.lit (.int .u8 0),.lit (.int .i32 0),.lit (.string []),.nil],.agg [.lit (.bool false),.nil],.nil,.nil]],.lit (.string [])],[],[])) 8 (by kernel_rfl) (by kernel_rfl) (fun k hk=>by cases hk;kernel_rfl) (by kernel_rfl) (jw7 os _))) ?_
 intro W base args ds gs before hval0 hW _ hcond _ hL0 hsh _;have hL:laidMetH prog jk7 W:=hL0;obtain⟨mm,hG⟩:=jg4 hL hsh;have hval:∀ (j:Nat) t v,Tryz.f9.params[j]? =some t->args[j]? =some v->Value.okWide prog W .any base t v:=hval0;have hW':DataW.Whole enc prog Tryz.f9.params.toList Rows.scopeRenameSpec.vars false W args.toList ds gs before:=hW;obtain⟨p,q,hA0,hV0,rfl,hfz,hnd⟩:=hW;have hA:DataW.TrodAll enc prog W 0 (fun _=>true) true Tryz.f9.params.toList args.toList ds p:=hA0;rw[Tryz.params9]at hA hval;obtain⟨v0,vs0,d0,ds0,p0,q0,hargs,rfl,rfl,h0,r0⟩:=trodAll_cons hA;obtain⟨v1,vs1,d1,ds1,p1,q1,rfl,rfl,rfl,h1,r1⟩:=trodAll_cons r0;obtain⟨rfl,rfl,rfl⟩:=trodAll_nil r1;obtain rfl:args=#[v0,v1]:=by cases args;simp_all
 obtain⟨rfl,rfl⟩:=trodVars_none (show DataW.TrodVars _ _ _ _ [] _ _ from hV0);have hb:Rows.uptoBulkAll ([d0,d1]++[])<=1048576:=of_decide_eq_true (hcond _ rfl);simp only[Ac,Ad,Rows.uptoBulkAll]at hb;have lt0:∀ x∈p0,x.block<W.heap.size:=by obtain⟨m,hm⟩:=h0;exact DataW.trod_lt m _ _ _ hm
 have lt1:∀ x∈p1,x.block<W.heap.size:=by obtain⟨m,hm⟩:=h1;exact DataW.trod_lt m _ _ _ hm
 obtain⟨e0,w0,b0,n0⟩:∃ e:Pr,Gd W NoM (dPr e) v0/\Lx.kPr e/\(Sc.Fy e).length<=1000000000:=by
  obtain⟨c,⟨e,he,hk⟩,hr,hz⟩:=jz6 Tryz.underlying45 jf6 (hval 0 45 v0 rfl rfl) h0;have hn:=kx5 e;rw[<-he,dsz]at hn;exact⟨e,he ▸ hr,hk,by omega⟩
 obtain⟨e1,w1⟩:∃ e:ByteArray,Gd W NoM (.str e) v1:=by
  obtain⟨i,rfl⟩:=okWide_string Tryz.underlying9 (hval 1 9 v1 rfl rfl);exact⟨i,rfl⟩
 clear hA0 hval0 hcond hb;refine((kx4 (mm:=mm) e0 e1 b0 n0) W NoM [v0,v1] (fun _ _ h=>h.elim) ⟨_,_,rfl,w0,_,_,rfl,w1,rfl⟩ hG).mono fun e W' he=>?_;obtain⟨v,x,rfl,_,rfl,bel,hr⟩:=he;obtain rfl:x=.bool true:=hr;exact⟨_,rfl,_,_,_,[],_,[],hW',trodAll_mk1 (shut_bool Tryz.underlying4 _),(trodAll_cons_mk (Below.trod jk0 (by kernel_rfl) (of_decide_eq_true (by kernel_rfl)) h0 bel lt0) (trodAll_cons_mk (Below.trod jk0 (by kernel_rfl) (of_decide_eq_true (by kernel_rfl)) h1 bel lt1) trodAll_mk0)),rfl,bel.frame _,fun h=>by cases h⟩
theorem md3:Rows.ScopeRenameUptoSaid:=
 OpenClaim.holds_of_cond 9 Tryz.f9 rfl rfl rfl rfl rfl rfl rfl ⟨rfl,rfl,rfl,rfl,rfl⟩ rfl rfl rfl rfl rfl (by kernel_rfl) func9 (by kernel_rfl)
  (of_decide_eq_true (by kernel_rfl)) (by unfold Func.isWrapper;first|(rw[Ae (by decide+kernel)];kernel_rfl)|(rw[Af (by decide+kernel)];exact⟨rfl,rfl⟩))
  (fun os started H enc _ F=>by rw[OpenClaim.pre_eq_preRow];exact kk8 os started H enc F)
end
end Go.Proofs.YtdopmfifmgkmoaaGreatDoor
