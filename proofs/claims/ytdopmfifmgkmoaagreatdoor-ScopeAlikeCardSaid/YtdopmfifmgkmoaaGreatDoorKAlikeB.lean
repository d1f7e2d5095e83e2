/- Parts: RSAlike. -/
import Derived.Test.YtdopmfifmgkmoaaGreatDoorP43
import Derived.Test.YtdopmfifmgkmoaaGreatDoorP49
set_option linter.all false
set_option maxRecDepth 100000
set_option maxHeartbeats 16000000
namespace Go.Proofs.YtdopmfifmgkmoaaGreatDoor
open Go.RowKit Go.Proofs.Tryz
section
open Go.ChangeShapes Go.WideShapes Go.ChangeAt Go.RowKit
set_option maxRecDepth 100000 in
theorem kp8 (os:Os)(started:os.Started)(H:Type)(enc:TypeId × Value->H):
 ReturnsInHanded {} Tryz.checked os 6 .any (fun w args=>(Rows.scopeAlikeSpec.pre enc prog Tryz.f6 [] false w args/\laidMetH prog jk7 w)/\sizedMet enc prog Tryz.f6 (OpenSpec.ofChange Rows.scopeAlikeSpec) false w args)
  (Rows.scopeAlikeSpec.post enc prog Tryz.f6 false true false false):=by
 refine jh2 (C:=Tryz.checked) (X:=fun w _=>laidMetH prog jk7 w) (fun _ _ _ hh h=>h.of_heap hh) jw8 started (by kernel_rfl) func6
  (ChangeSpec.witness_shaped (enc:=enc) (C:=Tryz.checked) (os:=os) (X:=fun w _=>laidMetH prog jk7 w) false (World.laidAll prog os jk7) #[.agg #[.int .u8 0,.string ⟨#[]⟩,.int .u8 0,.int .u8 0,.int .u8 0,.int .i32 0,.string ⟨#[]⟩,.slice none 0 0,.slice none 0 0,.slice none 0 0,.string ⟨#[]⟩,.int .u8 0,.int .u8 0,.int .u8 0,.int .i32 0,.string ⟨#[]⟩,.slice none 0 0,.int .u8 0,.int .u8 0,.int .u8 0,.int .i32 0,.string ⟨#[]⟩,.slice none 0 0,.slice none 0 0,.slice none 0 0,.slice none 0 0,.int .u8 0,.int .u8 0,.int .i64 0,.int .u8 0,.string ⟨#[]⟩,.slice none 0 0,.int .u8 0,.int .u8 0,.int .u8 0,.int .i32 0,.string ⟨#[]⟩,.slice none 0 0,.bool false,.slice none 0 0,.slice none 0 0,.slice none 0 0],.agg #[.int .u8 0,.string ⟨#[]⟩,.int .u8 0,.int .u8 0,.int .u8 0,.int .i32 0,.string ⟨#[]⟩,.slice none 0 0,.slice none 0 0,.slice none 0 0,.string ⟨#[]⟩,.int .u8 0,.int .u8 0,.int .u8 0,.int .i32 0,.string ⟨#[]⟩,.slice none 0 0,.int .u8 0,.int .u8 0,.int .u8 0,.int .i32 0,.string ⟨#[]⟩,.slice none 0 0,.slice none 0 0,.slice none 0 0,.slice none 0 0,.int .u8 0,.int .u8 0,.int .i64 0,.int .u8 0,.string ⟨#[]⟩,.slice none 0 0,.int .u8 0,.int .u8 0,.int .u8 0,.int .i32 0,.string ⟨#[]⟩,.slice none 0 0,.bool false,.slice none 0 0,.slice none 0 0,.slice none 0 0]] 8 (World.laidAll_os _ _ _) (World.shaped_of_ZipB (by kernel_rfl) (by kernel_rfl)) (by kernel_rfl) (by kernel_rfl) (by kernel_rfl) (jw7 os _)) ?_
 intro W base args ds gs before hval0 hW hL hsh;obtain⟨mm,hG⟩:=jg4 hL hsh;have hval:∀ (j:Nat) t v,Tryz.f6.params[j]? =some t->args[j]? =some v->Value.okWide prog W .any base t v:=hval0;have hW':=hW;obtain⟨p,q,hA0,hV,rfl,hfz,hnd⟩:=hW;have hA:DataW.TrodAll enc prog W 0 (fun _=>true) true Tryz.f6.params.toList args.toList ds p:=hA0;rw[Tryz.params6]at hA hval;obtain⟨v0,vs0,d0,ds0,p0,q0,hargs,rfl,rfl,h0,r0⟩:=trodAll_cons hA;obtain⟨v1,vs1,d1,ds1,p1,q1,rfl,rfl,rfl,h1,r1⟩:=trodAll_cons r0;obtain⟨rfl,rfl,rfl⟩:=trodAll_nil r1;obtain rfl:args=#[v0,v1]:=by cases args;simp_all
 obtain⟨rfl,rfl⟩:=trodVars_none hV;have lt0:∀ x∈p0,x.block<W.heap.size:=by obtain⟨m,hm⟩:=h0;exact DataW.trod_lt m _ _ _ hm
 have lt1:∀ x∈p1,x.block<W.heap.size:=by obtain⟨m,hm⟩:=h1;exact DataW.trod_lt m _ _ _ hm
 obtain⟨e0,w0,b0⟩:∃ e:Pr,Gd W NoM (dPr e) v0/\Lx.kPr e:=by
  obtain⟨c,⟨e,he,hk⟩,hr,_⟩:=jz6 Tryz.underlying45 jf6 (hval 0 45 v0 rfl rfl) h0;exact⟨e,he ▸ hr,hk⟩
 obtain⟨e1,w1,b1⟩:∃ e:Pr,Gd W NoM (dPr e) v1/\Lx.kPr e:=by
  obtain⟨c,⟨e,he,hk⟩,hr,_⟩:=jz6 Tryz.underlying45 jf6 (hval 1 45 v1 rfl rfl) h1;exact⟨e,he ▸ hr,hk⟩
 clear hA0 hval0;refine((mi3 (mm:=mm) e0 e1 b0 b1) W NoM [v0,v1] (fun _ _ h=>h.elim) ⟨_,_,rfl,w0,_,_,rfl,w1,rfl⟩ hG).mono fun e W' he=>?_;obtain⟨v,x,rfl,_,rfl,bel,hr⟩:=he;obtain rfl:x=.bool true:=hr;exact⟨_,rfl,_,_,_,[],_,[],hW',trodAll_mk1 (shut_bool Tryz.underlying4 _),(trodAll_cons_mk (Below.trod jk0 (by kernel_rfl) (of_decide_eq_true (by kernel_rfl)) h0 bel lt0) (trodAll_cons_mk (Below.trod jk0 (by kernel_rfl) (of_decide_eq_true (by kernel_rfl)) h1 bel lt1) trodAll_mk0)),rfl,bel.frame _,fun h=>by cases h⟩
theorem mo7:Rows.ScopeAlikeSaid:=
 OpenClaim.holds_of_wide 6 Tryz.f6 rfl rfl rfl rfl rfl rfl rfl ⟨rfl,rfl,rfl,rfl,rfl⟩ rfl rfl rfl rfl rfl (by kernel_rfl) func6 (by kernel_rfl)
  (of_decide_eq_true (by kernel_rfl)) (by unfold Func.isWrapper;first|(rw[Ae (by decide+kernel)];kernel_rfl)|(rw[Af (by decide+kernel)];exact⟨rfl,rfl⟩))
  (fun os started H enc _=>kp8 os started H enc)
end
end Go.Proofs.YtdopmfifmgkmoaaGreatDoor
