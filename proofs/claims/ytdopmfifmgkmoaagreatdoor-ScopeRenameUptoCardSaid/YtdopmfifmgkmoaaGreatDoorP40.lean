/- Parts: O34B, O34, O35, O36. -/
import Derived.Test.YtdopmfifmgkmoaaGreatDoorP39
import Derived.Test.YtdopmfifmgkmoaaGreatDoorP18
set_option linter.all false
set_option maxRecDepth 100000
set_option maxHeartbeats 16000000
namespace Go.Proofs.YtdopmfifmgkmoaaGreatDoor
open Go.RowKit Go.Proofs.Tryz
section
def Kk:List Nat:=[0,1,2,3,4,5,6,7,8,9,10,21,31,32,37,53,70,87,104,118,129,137,160,191,199,206,219,233,249]
def Lr:Int->Bool:=fun n=>decide (0<=n) && decide (n<8)
def tlN:Nat->Code->Code
 |n+1,.seq _ y=>tlN n y
 |_,c=>c
inductive OZ where
 |o|te|ct|ce|c|p|e|ne|s
def jt7:List V:=[.d (.int .u8 0),.d (.int .u8 0),.d (.int .u8 0),.d (.int .i32 0),.d (.str ByteArray.empty),.nils 6]
def exC (e:Ex):List V:=[.d (.int .u8 e.kind),.d (.int .u8 e.op),.d (.int .u8 e.ty),.d (.int .i32 e.n),.d (.str e.s),.d (.list 6 (e.l.map dEx))]
def kb4:List V:=[.d (.int .u8 0),.d (.int .u8 0),.d (.int .i64 0),.d (.int .u8 0),.d (.str ByteArray.empty),.nils 1]++jt7++[.d (.bool false),.nils 2,.nils 6,.nils 42]
def spC (s:Sp):List V:=[.d (.int .u8 s.kind),.d (.int .u8 s.type.kind),.d (.int .i64 s.type.dim),.d (.int .u8 s.type.item),.d (.str s.type.proto),.d (.list 1 (s.names.map .str))]++exC s.e++[.d (.bool s.proto.cases),.d (.list 2 (s.proto.l.map dVa)),.d (.list 6 (s.formals.map dFo)),.d (.list 42 (s.body.map dPr))]
def prC (n:V)(c:List V)(t e ps:V)(s:List V):List V:=[.d (.int .u8 0),n]++c++[t,e,.d (.str ByteArray.empty)]++jt7++jt7++[.nils 0,.nils 0,ps]++s
def ozc (p:Pr):OZ->List V
 |.o=>prC (.d (.str p.name)) (exC p.chan) (.d (.list 6 (p.targets.map dEx))) (.d (.list 6 (p.exprs.map dEx))) (.d (.list 1 (p.procs.map (.int .i64)))) (spC p.spec)
 |.te=>prC (.d (.str p.name)) (exC p.chan) (.nils 0) (.nils 0) (.d (.list 1 (p.procs.map (.int .i64)))) (spC p.spec)
 |.ct=>prC (.d (.str p.name)) jt7 (.nils 0) (.d (.list 6 (p.exprs.map dEx))) (.d (.list 1 (p.procs.map (.int .i64)))) (spC p.spec)
 |.ce=>prC (.d (.str p.name)) jt7 (.d (.list 6 (p.targets.map dEx))) (.nils 0) (.d (.list 1 (p.procs.map (.int .i64)))) (spC p.spec)
 |.c=>prC (.d (.str p.name)) jt7 (.d (.list 6 (p.targets.map dEx))) (.d (.list 6 (p.exprs.map dEx))) (.d (.list 1 (p.procs.map (.int .i64)))) (spC p.spec)
 |.p=>prC (.d (.str p.name)) (exC p.chan) (.d (.list 6 (p.targets.map dEx))) (.d (.list 6 (p.exprs.map dEx))) (.nils 0) (spC p.spec)
 |.e=>prC (.d (.str p.name)) (exC p.chan) (.d (.list 6 (p.targets.map dEx))) (.nils 0) (.d (.list 1 (p.procs.map (.int .i64)))) (spC p.spec)
 |.ne=>prC (.d (.str ByteArray.empty)) (exC p.chan) (.d (.list 6 (p.targets.map dEx))) (.nils 0) (.d (.list 1 (p.procs.map (.int .i64)))) (spC p.spec)
 |.s=>prC (.d (.str p.name)) (exC p.chan) (.d (.list 6 (p.targets.map dEx))) (.d (.list 6 (p.exprs.map dEx))) (.d (.list 1 (p.procs.map (.int .i64)))) kb4
def oz0 (p:Pr):OZ->Pr
 |.o=>.mk 0 p.name p.chan p.targets p.exprs rp0 [] [] p.procs p.spec
 |.te=>.mk 0 p.name p.chan [] [] rp0 [] [] p.procs p.spec
 |.ct=>.mk 0 p.name ex0 [] p.exprs rp0 [] [] p.procs p.spec
 |.ce=>.mk 0 p.name ex0 p.targets [] rp0 [] [] p.procs p.spec
 |.c=>.mk 0 p.name ex0 p.targets p.exprs rp0 [] [] p.procs p.spec
 |.p=>.mk 0 p.name p.chan p.targets p.exprs rp0 [] [] [] p.spec
 |.e=>.mk 0 p.name p.chan p.targets [] rp0 [] [] p.procs p.spec
 |.ne=>.mk 0 ByteArray.empty p.chan p.targets [] rp0 [] [] p.procs p.spec
 |.s=>.mk 0 p.name p.chan p.targets p.exprs rp0 [] [] p.procs sp0
def oS (gl:List (Nat × List D))(p:Pr)(z:OZ)(env:List (Nat × V)):Sd:=⟨env++[(3,.ptr 3 0),(1,.d (.ref (ka7 p) 0)),(2,.d (.bool false)),(0,.d (dP p))],[(3,.box (ozc p z))],gl⟩
def kl6 (k:Int):OZ:=if k=3 then .te else if k=4 then .ct else if k=5\/k=6 then .ce else if k=7 then .c else if k=11 then .p else if k=15\/k=16 then .e else if k=17 then .ne else if k=18 then .s else .o
noncomputable def kl7 (p:Pr)(r:Bool)(k:Int):Bool:=if k=1\/k=2\/k=10 then !r else if k=3 then !r && Lx.Da p.targets 1 8 Lx.Hf && Lx.Da p.exprs 1 8 Lx.Gr else if k=4 then !r && Lx.Hf p.chan && Lx.Da p.targets 1 8 Lx.Hf else if k=5 then !r && Lx.Hf p.chan && Lx.Da p.exprs 1 9 Lx.Gr else if k=6 then !r && Lx.Hf p.chan && Lx.Da p.exprs 1 1 Lx.Gr else if k=7 then !r && Lx.Hf p.chan else if k=8\/k=9\/k=12\/k=13\/k=14 then true else if k=11 then !r && decide (p.procs.length=p.l.length) && (decide (8<p.procs.length) || p.procs.all Lr) else if k=15\/k=16 then !r && Lx.Da p.exprs 1 1 Lx.Gr else if k=17 then !r && Lx.Dg p.name && Lx.Da p.exprs 0 8 Lx.Gr else if k=18 then !r && Lx.Jf p.spec else false
noncomputable def kl8 (p:Pr)(r l0:Bool)(k:Int):Bool:=if k=8\/k=9 then !r || decide (p.l.length=1) else if k=10 then decide (p.l.length=2) else if k=11 then Lx.hasB 1 8 p.l.length else if k=16\/k=18 then decide (p.l.length=1) else l0
noncomputable def kl9 (p:Pr)(g0:Bool)(least most k:Int):Bool:=if k=7 then Lx.Dq p.guards 1 16 7 7 else if k=12\/k=13 then Lx.Dq p.guards least most 2 4 else if k=14 then Lx.Dq p.guards least most 1 1 else if k=15 then Lx.Dq p.guards 0 16 5 6 else g0
attribute [local irreducible] TR TC
theorem je5 (p:Pr)(r l0 g0:Bool)(least most:Int)(hr:r=!decide (p.rep.name=ByteArray.empty))(h0:l0=decide (p.l.length=0))(hg:g0=decide (p.guards.length=0))(h:(least,most)=if r then ((1:Int),(1:Int)) else (0,16)):Lx.ownB p=(kl7 p r p.kind && (kl8 p r l0 p.kind && (kl9 p g0 least most p.kind && (Lx.Iz p.rep && eqB (oz0 p (kl6 p.kind)) pr0)))):=by
 subst hr h0 hg;have hl:least=if (!decide (p.rep.name=ByteArray.empty))=true then 1 else 0:=by
  by_cases h0:p.rep.name=ByteArray.empty<;>simp[h0]at h ⊢<;>exact h.1
 have hm:most=if (!decide (p.rep.name=ByteArray.empty))=true then 1 else 16:=by
  by_cases h0:p.rep.name=ByteArray.empty<;>simp[h0]at h ⊢<;>exact h.2
 subst hl hm;clear h;have hz:∀ (a:Int) b c d e f g h i j,eqB (Pr.mk a b c d e f g h i j) pr0=(decide (a=0) && decide (b=ByteArray.empty) && eqB c ex0 && decide (d.length=0) && decide (e.length=0) && eqB f rp0 && decide (g.length=0) && decide (h.length=0) && decide (i.length=0) && eqB j sp0):=fun a b c d e f g h i j=>by
  rw[Ej,k7];simp only[pr0,Pr.mk.injEq,Ab,Al,k7,El,and_assoc]
 have he:eqB ex0 ex0=true:=k7.2 rfl;have hr:eqB rp0 rp0=true:=k7.2 rfl;have hs:eqB sp0 sp0=true:=k7.2 rfl;have hok:Lr=fun n=>decide (0<=n) && decide (n<8):=rfl;rw[Ej];have hk:(p.kind=1\/p.kind=2\/p.kind=3\/p.kind=4\/p.kind=5\/p.kind=6\/p.kind=7\/p.kind=8\/p.kind=9\/p.kind=10\/p.kind=11\/p.kind=12\/p.kind=13\/p.kind=14\/p.kind=15\/p.kind=16\/p.kind=17\/p.kind=18)\/(p.kind≠1/\p.kind≠2/\p.kind≠3/\p.kind≠4/\p.kind≠5/\p.kind≠6/\p.kind≠7/\p.kind≠8/\p.kind≠9/\p.kind≠10/\p.kind≠11/\p.kind≠12/\p.kind≠13/\p.kind≠14/\p.kind≠15/\p.kind≠16/\p.kind≠17/\p.kind≠18):=by omega
 unfold Lx.ownB;rcases hk with (k|k|k|k|k|k|k|k|k|k|k|k|k|k|k|k|k|k)|k
 all_goals
  simp only[Lx.Ip,Lx.Jm,oz0,kl6,kl7,kl8,kl9,hz,he,hr,hs,k,hok,Int.reduceEq,or_self,or_true,true_or,or_false,false_or,if_true,if_false,ite_self,ne_eq,not_true_eq_false,not_false_eq_true,decide_true,decide_false,Aq,Bool.not_not,Bc,Bn,Av,Az,Ea,Ed,Ee,Eh,Ab,Bo,Al,Ay,iff_false,false_iff]
  first
   |done
   |grind [Lx.hasB]
attribute [local irreducible] Lx.Da Lx.Hf Lx.Dq Lx.Jf Lx.Dg Lx.Gr Lx.Iz Lx.ownB
theorem ja7 (gl:List (Nat × List D))(p:Pr){R:V->Prop}(hgo:∀ w M (r l0 g0:Bool) (least most:Int),r=(!decide (p.rep.name=ByteArray.empty))->l0=decide (p.l.length=0)->g0=decide (p.guards.length=0)->(least,most)=(if r then ((1:Int),(1:Int)) else (0,16))->TC ⟨prog,Ctx.fn 281 w M,none⟩ (tlN 13 (Tryz.f91.body.getD .skip)) (Ends prog [.tmp 2] R) (oS gl p .o [(9,.d (.bool g0)),(8,.d (.bool l0)),(7,.d (.int .i64 least)),(6,.d (.int .i64 most)),(5,.d (.bool r)),(4,.d (.bool false))])):FnD prog gl 91 [.d (dPr p)] R:=by
 rw[v8]
 (refine j3 func91 ntmps91 results91 fun w M=>?_)
 refine Cb fun K0 h0=>?_
 (refine x7 (id:=0) ?_;(repeat' first|refine Ca 1 ?_;(refine j6 1 ?_)|refine yyp ?_;try refine Cc ?_ ?_<;>intro hb|refine yy ?_|refine yy2 ?_ ?_<;>intro hcmp|refine at_nil ?_;refine Ce Kk ?_))
 refine h0 _ ?_;clear h0 K0;refine jp2 (t:=1) (env':=[(2,.d (.bool false)),(0,.d (dP p))]) (H':=[]) rfl rfl (by repeat (first|exact .nil|apply Frz.cons (.d _))) rfl (by(repeat (first|exact Sub.nil|apply Sub.cons rfl));fail_if_success intros) (by(repeat (first|exact Sub.nil|apply Sub.cons rfl));fail_if_success intros) rfl rfl ?_
 ((repeat' first|refine Ca 3 ?_;(refine Cj 3 ?_)|refine Ca 15 ?_;refine z_p Cr ?_|refine Ck 6 ?_;refine halt ?_|refine yyp ?_|refine yy ?_|refine yy2 ?_ ?_<;>intro hcmp|refine at_nil ?_;refine Ce Kk ?_|refine Cb fun K hK=>?_|apply_assumption -exfalso -symm);all_goals try refine unhalt ?_)
 (refine x7 (id:=6) ?_;(repeat' first|refine yyp ?_;try refine Cc ?_ ?_<;>intro hb|refine yy ?_|refine yy2 ?_ ?_<;>intro hcmp|refine at_nil ?_;refine Ce Kk ?_))
 apply_assumption -exfalso -symm
 refine g8 (ι:=Bool) (fun r=>oS gl p .o [(5,.d (.bool r)),(4,.d (.bool false))]) (fun r=>r=!decide (p.rep.name=ByteArray.empty)) ?_ ?_<;>dsimp only[oS,ozc,prC,exC,jt7,spC,kb4,Ac,Ad]
 ·(repeat' first|refine yyp ?_|refine yy ?_|refine yy2 ?_ ?_<;>intro hcmp|refine at_nil ?_;refine Ce Kk ?_|refine Cb fun K hK=>?_|apply_assumption -exfalso -symm)
  all_goals
   refine⟨_,?_,v6⟩
   (repeat (rename (∀ S:Sd,TC _ _ _ S->_)=>hX;clear hX))
   clear hgo;simp_all [jf0]
 rintro r hr
 ((repeat' first|refine Ck 9 ?_;refine halt ?_|refine yyp ?_|refine yy ?_|refine yy2 ?_ ?_<;>intro hcmp|refine at_nil ?_;refine Ce Kk ?_|refine Cb fun K hK=>?_|apply_assumption -exfalso -symm);all_goals try refine unhalt ?_)
 (refine x7 (id:=9) ?_;(repeat' first|refine yyp ?_;try refine Cc ?_ ?_<;>intro hb|refine yy ?_|refine yy2 ?_ ?_<;>intro hcmp|refine at_nil ?_;refine Ce Kk ?_))
 apply_assumption -exfalso -symm
 refine g8 (ι:=Int × Int) (fun x=>oS gl p .o [(7,.d (.int .i64 x.1)),(6,.d (.int .i64 x.2)),(5,.d (.bool r)),(4,.d (.bool false))]) (fun x=>x=if r then (1,1) else (0,16)) ?_ ?_<;>dsimp only[oS,ozc,prC,exC,jt7,spC,kb4,Ac,Ad]
 ·(repeat' first|refine Ca 21 ?_;refine yyp ?_;try refine Cc ?_ ?_<;>intro hb|refine yyp ?_|refine yy ?_|refine yy2 ?_ ?_<;>intro hcmp|refine at_nil ?_;refine Ce Kk ?_|refine Cb fun K hK=>?_|apply_assumption -exfalso -symm)
  all_goals
   refine⟨(_,_),?_,v6⟩
   (repeat (rename (∀ S:Sd,TC _ _ _ S->_)=>hX;clear hX))
   clear hgo;simp_all
 rintro⟨least,most⟩ hlm;dsimp only;refine g8 (ι:=Bool) (fun l0=>oS gl p .o [(8,.d (.bool l0)),(7,.d (.int .i64 least)),(6,.d (.int .i64 most)),(5,.d (.bool r)),(4,.d (.bool false))]) (fun l0=>l0=decide (p.l.length=0)) ?_ ?_<;>dsimp only[oS,ozc,prC,exC,jt7,spC,kb4,Ac,Ad]
 ·(repeat' first|refine yyp ?_|refine yy ?_|refine yy2 ?_ ?_<;>intro hcmp|refine at_nil ?_;refine Ce Kk ?_|refine Cb fun K hK=>?_|apply_assumption -exfalso -symm)
  all_goals
   refine⟨_,?_,v6⟩
   (repeat (rename (∀ S:Sd,TC _ _ _ S->_)=>hX;clear hX))
   clear hgo;simp_all
 rintro l0 hl0;refine g8 (ι:=Bool) (fun g0=>oS gl p .o [(9,.d (.bool g0)),(8,.d (.bool l0)),(7,.d (.int .i64 least)),(6,.d (.int .i64 most)),(5,.d (.bool r)),(4,.d (.bool false))]) (fun g0=>g0=decide (p.guards.length=0)) ?_ ?_<;>dsimp only[oS,ozc,prC,exC,jt7,spC,kb4,Ac,Ad]
 ·(repeat' first|refine yyp ?_|refine yy ?_|refine yy2 ?_ ?_<;>intro hcmp|refine at_nil ?_;refine Ce Kk ?_|refine Cb fun K hK=>?_|apply_assumption -exfalso -symm)
  all_goals
   refine⟨_,?_,v6⟩
   (repeat (rename (∀ S:Sd,TC _ _ _ S->_)=>hX;clear hX))
   clear hgo;simp_all
 rintro g0 hg0;exact hgo w M r l0 g0 least most hr hl0 hg0 hlm
theorem ja8 (gl:List (Nat × List D))(p:Pr)(w:World)(M:Nat->Nat->Prop)(z:OZ)(fine parts choices:Bool)(hown:Lx.ownB p=(fine && (parts && (choices && (Lx.Iz p.rep && eqB (oz0 p z) pr0))))):TC ⟨prog,Ctx.fn 281 w M,none⟩ (tlN 14 (Tryz.f91.body.getD .skip)) (Ends prog [.tmp 2] (fun v=>v=.d (.bool (Lx.ownB p)))) (oS gl p z [(4,.d (.bool fine)),(8,.d (.bool parts)),(9,.d (.bool choices))]):=by
 have t5:=qr4 gl p.rep;have wS:=jq3 gl (oz0 p z) pr0;cases z
 all_goals as_aux_lemma=>
  simp only[oz0]at hown wS;rw[v8]at wS;dsimp only[oS,ozc,prC,exC,jt7,spC,kb4,Ac,Ad]
  (repeat' first|refine Ca 265 ?_;(first|refine yyp ?_;try refine Cc ?_ ?_<;>intro hb|refine yy2 ?_ ?_<;>intro hcmp);all_goals try refine Db false 265 2 Kk ?_|refine Ca 265 ?_;refine yyp ?_;try refine Cc ?_ ?_<;>intro hb|refine Ca 268 ?_;(first|refine yyp ?_;try refine Cc ?_ ?_<;>intro hb|refine yy2 ?_ ?_<;>intro hcmp);all_goals try refine Db false 268 2 Kk ?_|refine Ca 268 ?_;refine yyp ?_;try refine Cc ?_ ?_<;>intro hb|refine Ca 271 ?_;(first|refine yyp ?_;try refine Cc ?_ ?_<;>intro hb|refine yy2 ?_ ?_<;>intro hcmp);all_goals try refine Db false 271 2 Kk ?_|refine Ca 271 ?_;refine yyp ?_;try refine Cc ?_ ?_<;>intro hb|refine Ca 276 ?_;(first|refine yyp ?_;try refine Cc ?_ ?_<;>intro hb|refine yy2 ?_ ?_<;>intro hcmp);all_goals try refine Db false 276 2 Kk ?_|refine Ca 276 ?_;refine yyp ?_;try refine Cc ?_ ?_<;>intro hb|refine yyp ?_|refine yy ?_|refine yy2 ?_ ?_<;>intro hcmp|refine Cf 132 ?_;refine Cg (hc:=t5) ?_|refine Cf 19 ?_;refine Cg (hc:=(by first|exact wS)) ?_|refine at_nil ?_;refine Ce Kk ?_|refine Cb fun K hK=>?_|apply_assumption -exfalso -symm)
  all_goals
   (refine j0 (j5 ?_))
   (repeat (rename (∀ S:Sd,TC _ _ _ S->_)=>hX;clear hX))
   clear t5 wS;simp only[oneOf,Ax,An,hown];simp_all
end
section
def Qs:List Nat:=[0,1,2,3,4,5,6,7,8,9,10,21,31,32,37,53,70,87,104,118,129,137,160,191,199,206,219,233,249]
attribute [local irreducible] Lx.Da Lx.Hf Lx.Dq Lx.Jf Lx.Dg Lx.Gr Lx.Iz Lx.ownB
attribute [local irreducible] TR TC
theorem qf5 (gl:List (Nat × List D))(p:Pr)(hkk:∀ g∈p.guards,0<=g.kind)(k:p.kind=1):FnD prog gl 91 [.d (dPr p)] (fun v=>v=.d (.bool (Lx.ownB p))):=by
 have t1:=x3 gl p.targets;have t2:=y8 gl p.exprs;have t3:=x6 gl p.chan;have t4:=fun a b lo hi=>y6 gl p.guards a b lo hi hkk;have t6:=y3 gl p.name;have t7:=z6 gl p.spec;clear hkk;simp only[r9]at t3;refine ja7 gl p fun w M r l0 g0 least most hr hl0 hg0 hlm=>?_;have hown:=je5 p r l0 g0 least most hr hl0 hg0 hlm;simp only[kl7,kl8,kl9,kl6,k,Int.reduceEq,or_self,or_true,true_or,or_false,false_or,if_true,if_false]at hown;refine g8 (ι:=Bool × Bool × Bool) (fun x=>oS gl p .o [(4,.d (.bool x.1)),(8,.d (.bool x.2.1)),(9,.d (.bool x.2.2))]) (fun x=>x=(!r,l0,g0)) ?_ ?_<;>dsimp only[oS,ozc,prC,exC,jt7,spC,kb4,Ac,Ad]
 ·(repeat' first|refine yyp ?_|refine yy ?_|refine yy2 ?_ ?_<;>intro hcmp|refine at_nil ?_;refine Ce Qs ?_|refine Cb fun K hK=>?_|apply_assumption -exfalso -symm)
  all_goals
   refine⟨(_,_,_),?_,v6⟩
   (repeat (rename (∀ S:Sd,TC _ _ _ S->_)=>hX;clear hX))
   clear t1 t2 t3 t4 t6 t7 hown;clear hr hlm hl0 hg0;simp only[Bg,Lx.hasB]at *
   all_goals (try simp_all)
   all_goals (try omega)
   all_goals (try (cases r<;>first|rfl|(simp;omega)|omega))
 rintro⟨fine,parts,choices⟩ hx;simp only[Bg]at hx;obtain⟨rfl,rfl,rfl⟩:=hx;exact ja8 gl p w M .o _ _ _ hown
theorem qf6 (gl:List (Nat × List D))(p:Pr)(hkk:∀ g∈p.guards,0<=g.kind)(k:p.kind=2):FnD prog gl 91 [.d (dPr p)] (fun v=>v=.d (.bool (Lx.ownB p))):=by
 have t1:=x3 gl p.targets;have t2:=y8 gl p.exprs;have t3:=x6 gl p.chan;have t4:=fun a b lo hi=>y6 gl p.guards a b lo hi hkk;have t6:=y3 gl p.name;have t7:=z6 gl p.spec;clear hkk;simp only[r9]at t3;refine ja7 gl p fun w M r l0 g0 least most hr hl0 hg0 hlm=>?_;have hown:=je5 p r l0 g0 least most hr hl0 hg0 hlm;simp only[kl7,kl8,kl9,kl6,k,Int.reduceEq,or_self,or_true,true_or,or_false,false_or,if_true,if_false]at hown;refine g8 (ι:=Bool × Bool × Bool) (fun x=>oS gl p .o [(4,.d (.bool x.1)),(8,.d (.bool x.2.1)),(9,.d (.bool x.2.2))]) (fun x=>x=(!r,l0,g0)) ?_ ?_<;>dsimp only[oS,ozc,prC,exC,jt7,spC,kb4,Ac,Ad]
 ·(repeat' first|refine yyp ?_|refine yy ?_|refine yy2 ?_ ?_<;>intro hcmp|refine at_nil ?_;refine Ce Qs ?_|refine Cb fun K hK=>?_|apply_assumption -exfalso -symm)
  all_goals
   refine⟨(_,_,_),?_,v6⟩
   (repeat (rename (∀ S:Sd,TC _ _ _ S->_)=>hX;clear hX))
   clear t1 t2 t3 t4 t6 t7 hown;clear hr hlm hl0 hg0;simp only[Bg,Lx.hasB]at *
   all_goals (try simp_all)
   all_goals (try omega)
   all_goals (try (cases r<;>first|rfl|(simp;omega)|omega))
 rintro⟨fine,parts,choices⟩ hx;simp only[Bg]at hx;obtain⟨rfl,rfl,rfl⟩:=hx;exact ja8 gl p w M .o _ _ _ hown
theorem qf7 (gl:List (Nat × List D))(p:Pr)(hkk:∀ g∈p.guards,0<=g.kind)(k:p.kind=3):FnD prog gl 91 [.d (dPr p)] (fun v=>v=.d (.bool (Lx.ownB p))):=by
 have t1:=x3 gl p.targets;have t2:=y8 gl p.exprs;have t3:=x6 gl p.chan;have t4:=fun a b lo hi=>y6 gl p.guards a b lo hi hkk;have t6:=y3 gl p.name;have t7:=z6 gl p.spec;clear hkk;simp only[r9]at t3;refine ja7 gl p fun w M r l0 g0 least most hr hl0 hg0 hlm=>?_;have hown:=je5 p r l0 g0 least most hr hl0 hg0 hlm;simp only[kl7,kl8,kl9,kl6,k,Int.reduceEq,or_self,or_true,true_or,or_false,false_or,if_true,if_false]at hown;refine g8 (ι:=Bool × Bool × Bool) (fun x=>oS gl p .te [(4,.d (.bool x.1)),(8,.d (.bool x.2.1)),(9,.d (.bool x.2.2))]) (fun x=>x=(!r && Lx.Da p.targets 1 8 Lx.Hf && Lx.Da p.exprs 1 8 Lx.Gr,l0,g0)) ?_ ?_<;>dsimp only[oS,ozc,prC,exC,jt7,spC,kb4,Ac,Ad]
 ·(repeat' first|refine Ca 41 ?_;(first|refine yyp ?_;try refine Cc ?_ ?_<;>intro hb|refine yy2 ?_ ?_<;>intro hcmp);all_goals try refine Db false 41 4 Qs ?_|refine Ca 41 ?_;refine yyp ?_;try refine Cc ?_ ?_<;>intro hb|refine Ca 46 ?_;(first|refine yyp ?_;try refine Cc ?_ ?_<;>intro hb|refine yy2 ?_ ?_<;>intro hcmp);all_goals try refine Db false 46 4 Qs ?_|refine Ca 46 ?_;refine yyp ?_;try refine Cc ?_ ?_<;>intro hb|refine yyp ?_|refine yy ?_|refine yy2 ?_ ?_<;>intro hcmp|refine Cf 126 ?_;refine Cg (hc:=(t1 _ _)) ?_|refine Cf 127 ?_;refine Cg (hc:=(t2 _ _)) ?_|refine at_nil ?_;refine Ce Qs ?_|refine Cb fun K hK=>?_|apply_assumption -exfalso -symm)
  all_goals
   refine⟨(_,_,_),?_,v6⟩
   (repeat (rename (∀ S:Sd,TC _ _ _ S->_)=>hX;clear hX))
   clear t1 t2 t3 t4 t6 t7 hown;clear hr hlm hl0 hg0;simp only[Bg,Lx.hasB]at *
   all_goals (try simp_all)
   all_goals (try omega)
   all_goals (try (cases r<;>first|rfl|(simp;omega)|omega))
 rintro⟨fine,parts,choices⟩ hx;simp only[Bg]at hx;obtain⟨rfl,rfl,rfl⟩:=hx;exact ja8 gl p w M .te _ _ _ hown
theorem qf8 (gl:List (Nat × List D))(p:Pr)(hkk:∀ g∈p.guards,0<=g.kind)(k:p.kind=4):FnD prog gl 91 [.d (dPr p)] (fun v=>v=.d (.bool (Lx.ownB p))):=by
 have t1:=x3 gl p.targets;have t2:=y8 gl p.exprs;have t3:=x6 gl p.chan;have t4:=fun a b lo hi=>y6 gl p.guards a b lo hi hkk;have t6:=y3 gl p.name;have t7:=z6 gl p.spec;clear hkk;simp only[r9]at t3;refine ja7 gl p fun w M r l0 g0 least most hr hl0 hg0 hlm=>?_;have hown:=je5 p r l0 g0 least most hr hl0 hg0 hlm;simp only[kl7,kl8,kl9,kl6,k,Int.reduceEq,or_self,or_true,true_or,or_false,false_or,if_true,if_false]at hown;refine g8 (ι:=Bool × Bool × Bool) (fun x=>oS gl p .ct [(4,.d (.bool x.1)),(8,.d (.bool x.2.1)),(9,.d (.bool x.2.2))]) (fun x=>x=(!r && Lx.Hf p.chan && Lx.Da p.targets 1 8 Lx.Hf,l0,g0)) ?_ ?_<;>dsimp only[oS,ozc,prC,exC,jt7,spC,kb4,Ac,Ad]
 ·(repeat' first|refine Ca 57 ?_;(first|refine yyp ?_;try refine Cc ?_ ?_<;>intro hb|refine yy2 ?_ ?_<;>intro hcmp);all_goals try refine Db false 57 4 Qs ?_|refine Ca 57 ?_;refine yyp ?_;try refine Cc ?_ ?_<;>intro hb|refine Ca 62 ?_;(first|refine yyp ?_;try refine Cc ?_ ?_<;>intro hb|refine yy2 ?_ ?_<;>intro hcmp);all_goals try refine Db false 62 4 Qs ?_|refine Ca 62 ?_;refine yyp ?_;try refine Cc ?_ ?_<;>intro hb|refine Ca 67 ?_;refine z_p Cr ?_|refine yyp ?_|refine yy ?_|refine yy2 ?_ ?_<;>intro hcmp|refine Cf 128 ?_;refine Cg (hc:=t3) ?_|refine Cf 126 ?_;refine Cg (hc:=(t1 _ _)) ?_|refine at_nil ?_;refine Ce Qs ?_|refine Cb fun K hK=>?_|apply_assumption -exfalso -symm)
  all_goals
   refine⟨(_,_,_),?_,v6⟩
   (repeat (rename (∀ S:Sd,TC _ _ _ S->_)=>hX;clear hX))
   clear t1 t2 t3 t4 t6 t7 hown;clear hr hlm hl0 hg0;simp only[Bg,Lx.hasB]at *
   all_goals (try simp_all)
   all_goals (try omega)
   all_goals (try (cases r<;>first|rfl|(simp;omega)|omega))
 rintro⟨fine,parts,choices⟩ hx;simp only[Bg]at hx;obtain⟨rfl,rfl,rfl⟩:=hx;exact ja8 gl p w M .ct _ _ _ hown
end
section
def Oj:List Nat:=[0,1,2,3,4,5,6,7,8,9,10,21,31,32,37,53,70,87,104,118,129,137,160,191,199,206,219,233,249]
attribute [local irreducible] Lx.Da Lx.Hf Lx.Dq Lx.Jf Lx.Dg Lx.Gr Lx.Iz Lx.ownB
attribute [local irreducible] TR TC
theorem qf9 (gl:List (Nat × List D))(p:Pr)(hkk:∀ g∈p.guards,0<=g.kind)(k:p.kind=5):FnD prog gl 91 [.d (dPr p)] (fun v=>v=.d (.bool (Lx.ownB p))):=by
 have t1:=x3 gl p.targets;have t2:=y8 gl p.exprs;have t3:=x6 gl p.chan;have t4:=fun a b lo hi=>y6 gl p.guards a b lo hi hkk;have t6:=y3 gl p.name;have t7:=z6 gl p.spec;clear hkk;simp only[r9]at t3;refine ja7 gl p fun w M r l0 g0 least most hr hl0 hg0 hlm=>?_;have hown:=je5 p r l0 g0 least most hr hl0 hg0 hlm;simp only[kl7,kl8,kl9,kl6,k,Int.reduceEq,or_self,or_true,true_or,or_false,false_or,if_true,if_false]at hown;refine g8 (ι:=Bool × Bool × Bool) (fun x=>oS gl p .ce [(4,.d (.bool x.1)),(8,.d (.bool x.2.1)),(9,.d (.bool x.2.2))]) (fun x=>x=(!r && Lx.Hf p.chan && Lx.Da p.exprs 1 9 Lx.Gr,l0,g0)) ?_ ?_<;>dsimp only[oS,ozc,prC,exC,jt7,spC,kb4,Ac,Ad]
 ·(repeat' first|refine Ca 74 ?_;(first|refine yyp ?_;try refine Cc ?_ ?_<;>intro hb|refine yy2 ?_ ?_<;>intro hcmp);all_goals try refine Db false 74 4 Oj ?_|refine Ca 74 ?_;refine yyp ?_;try refine Cc ?_ ?_<;>intro hb|refine Ca 79 ?_;(first|refine yyp ?_;try refine Cc ?_ ?_<;>intro hb|refine yy2 ?_ ?_<;>intro hcmp);all_goals try refine Db false 79 4 Oj ?_|refine Ca 79 ?_;refine yyp ?_;try refine Cc ?_ ?_<;>intro hb|refine Ca 84 ?_;refine z_p Cr ?_|refine yyp ?_|refine yy ?_|refine yy2 ?_ ?_<;>intro hcmp|refine Cf 128 ?_;refine Cg (hc:=t3) ?_|refine Cf 127 ?_;refine Cg (hc:=(t2 _ _)) ?_|refine at_nil ?_;refine Ce Oj ?_|refine Cb fun K hK=>?_|apply_assumption -exfalso -symm)
  all_goals
   refine⟨(_,_,_),?_,v6⟩
   (repeat (rename (∀ S:Sd,TC _ _ _ S->_)=>hX;clear hX))
   clear t1 t2 t3 t4 t6 t7 hown;clear hr hlm hl0 hg0;simp only[Bg,Lx.hasB]at *
   all_goals (try simp_all)
   all_goals (try omega)
   all_goals (try (cases r<;>first|rfl|(simp;omega)|omega))
 rintro⟨fine,parts,choices⟩ hx;simp only[Bg]at hx;obtain⟨rfl,rfl,rfl⟩:=hx;exact ja8 gl p w M .ce _ _ _ hown
theorem qg0 (gl:List (Nat × List D))(p:Pr)(hkk:∀ g∈p.guards,0<=g.kind)(k:p.kind=6):FnD prog gl 91 [.d (dPr p)] (fun v=>v=.d (.bool (Lx.ownB p))):=by
 have t1:=x3 gl p.targets;have t2:=y8 gl p.exprs;have t3:=x6 gl p.chan;have t4:=fun a b lo hi=>y6 gl p.guards a b lo hi hkk;have t6:=y3 gl p.name;have t7:=z6 gl p.spec;clear hkk;simp only[r9]at t3;refine ja7 gl p fun w M r l0 g0 least most hr hl0 hg0 hlm=>?_;have hown:=je5 p r l0 g0 least most hr hl0 hg0 hlm;simp only[kl7,kl8,kl9,kl6,k,Int.reduceEq,or_self,or_true,true_or,or_false,false_or,if_true,if_false]at hown;refine g8 (ι:=Bool × Bool × Bool) (fun x=>oS gl p .ce [(4,.d (.bool x.1)),(8,.d (.bool x.2.1)),(9,.d (.bool x.2.2))]) (fun x=>x=(!r && Lx.Hf p.chan && Lx.Da p.exprs 1 1 Lx.Gr,l0,g0)) ?_ ?_<;>dsimp only[oS,ozc,prC,exC,jt7,spC,kb4,Ac,Ad]
 ·(repeat' first|refine Ca 91 ?_;(first|refine yyp ?_;try refine Cc ?_ ?_<;>intro hb|refine yy2 ?_ ?_<;>intro hcmp);all_goals try refine Db false 91 4 Oj ?_|refine Ca 91 ?_;refine yyp ?_;try refine Cc ?_ ?_<;>intro hb|refine Ca 96 ?_;(first|refine yyp ?_;try refine Cc ?_ ?_<;>intro hb|refine yy2 ?_ ?_<;>intro hcmp);all_goals try refine Db false 96 4 Oj ?_|refine Ca 96 ?_;refine yyp ?_;try refine Cc ?_ ?_<;>intro hb|refine Ca 101 ?_;refine z_p Cr ?_|refine yyp ?_|refine yy ?_|refine yy2 ?_ ?_<;>intro hcmp|refine Cf 128 ?_;refine Cg (hc:=t3) ?_|refine Cf 127 ?_;refine Cg (hc:=(t2 _ _)) ?_|refine at_nil ?_;refine Ce Oj ?_|refine Cb fun K hK=>?_|apply_assumption -exfalso -symm)
  all_goals
   refine⟨(_,_,_),?_,v6⟩
   (repeat (rename (∀ S:Sd,TC _ _ _ S->_)=>hX;clear hX))
   clear t1 t2 t3 t4 t6 t7 hown;clear hr hlm hl0 hg0;simp only[Bg,Lx.hasB]at *
   all_goals (try simp_all)
   all_goals (try omega)
   all_goals (try (cases r<;>first|rfl|(simp;omega)|omega))
 rintro⟨fine,parts,choices⟩ hx;simp only[Bg]at hx;obtain⟨rfl,rfl,rfl⟩:=hx;exact ja8 gl p w M .ce _ _ _ hown
theorem qg1 (gl:List (Nat × List D))(p:Pr)(hkk:∀ g∈p.guards,0<=g.kind)(k:p.kind=7):FnD prog gl 91 [.d (dPr p)] (fun v=>v=.d (.bool (Lx.ownB p))):=by
 have t1:=x3 gl p.targets;have t2:=y8 gl p.exprs;have t3:=x6 gl p.chan;have t4:=fun a b lo hi=>y6 gl p.guards a b lo hi hkk;have t6:=y3 gl p.name;have t7:=z6 gl p.spec;clear hkk;simp only[r9]at t3;refine ja7 gl p fun w M r l0 g0 least most hr hl0 hg0 hlm=>?_;have hown:=je5 p r l0 g0 least most hr hl0 hg0 hlm;simp only[kl7,kl8,kl9,kl6,k,Int.reduceEq,or_self,or_true,true_or,or_false,false_or,if_true,if_false]at hown;refine g8 (ι:=Bool × Bool × Bool) (fun x=>oS gl p .c [(4,.d (.bool x.1)),(8,.d (.bool x.2.1)),(9,.d (.bool x.2.2))]) (fun x=>x=(!r && Lx.Hf p.chan,l0,Lx.Dq p.guards 1 16 7 7)) ?_ ?_<;>dsimp only[oS,ozc,prC,exC,jt7,spC,kb4,Ac,Ad]
 ·(repeat' first|refine Ca 108 ?_;(first|refine yyp ?_;try refine Cc ?_ ?_<;>intro hb|refine yy2 ?_ ?_<;>intro hcmp);all_goals try refine Db false 108 4 Oj ?_|refine Ca 108 ?_;refine yyp ?_;try refine Cc ?_ ?_<;>intro hb|refine Ca 116 ?_;refine z_p Cr ?_|refine yyp ?_|refine yy ?_|refine yy2 ?_ ?_<;>intro hcmp|refine Cf 128 ?_;refine Cg (hc:=t3) ?_|refine Cf 129 ?_;refine Cg (hc:=(t4 _ _ _ _)) ?_|refine at_nil ?_;refine Ce Oj ?_|refine Cb fun K hK=>?_|apply_assumption -exfalso -symm)
  all_goals
   refine⟨(_,_,_),?_,v6⟩
   (repeat (rename (∀ S:Sd,TC _ _ _ S->_)=>hX;clear hX))
   clear t1 t2 t3 t4 t6 t7 hown;clear hr hlm hl0 hg0;simp only[Bg,Lx.hasB]at *
   all_goals (try simp_all)
   all_goals (try omega)
   all_goals (try (cases r<;>first|rfl|(simp;omega)|omega))
 rintro⟨fine,parts,choices⟩ hx;simp only[Bg]at hx;obtain⟨rfl,rfl,rfl⟩:=hx;exact ja8 gl p w M .c _ _ _ hown
theorem qg2 (gl:List (Nat × List D))(p:Pr)(hkk:∀ g∈p.guards,0<=g.kind)(k:p.kind=8):FnD prog gl 91 [.d (dPr p)] (fun v=>v=.d (.bool (Lx.ownB p))):=by
 have t1:=x3 gl p.targets;have t2:=y8 gl p.exprs;have t3:=x6 gl p.chan;have t4:=fun a b lo hi=>y6 gl p.guards a b lo hi hkk;have t6:=y3 gl p.name;have t7:=z6 gl p.spec;clear hkk;simp only[r9]at t3;refine ja7 gl p fun w M r l0 g0 least most hr hl0 hg0 hlm=>?_;have hown:=je5 p r l0 g0 least most hr hl0 hg0 hlm;simp only[kl7,kl8,kl9,kl6,k,Int.reduceEq,or_self,or_true,true_or,or_false,false_or,if_true,if_false]at hown;refine g8 (ι:=Bool × Bool × Bool) (fun x=>oS gl p .o [(4,.d (.bool x.1)),(8,.d (.bool x.2.1)),(9,.d (.bool x.2.2))]) (fun x=>x=(true,!r || decide (p.l.length=1),g0)) ?_ ?_<;>dsimp only[oS,ozc,prC,exC,jt7,spC,kb4,Ac,Ad]
 ·(repeat' first|refine Ca 123 ?_;(first|refine yyp ?_;try refine Cc ?_ ?_<;>intro hb|refine yy2 ?_ ?_<;>intro hcmp);all_goals try refine Db true 123 8 Oj ?_|refine Ca 123 ?_;refine yyp ?_;try refine Cc ?_ ?_<;>intro hb|refine yyp ?_|refine yy ?_|refine yy2 ?_ ?_<;>intro hcmp|refine at_nil ?_;refine Ce Oj ?_|refine Cb fun K hK=>?_|apply_assumption -exfalso -symm)
  all_goals
   refine⟨(_,_,_),?_,v6⟩
   (repeat (rename (∀ S:Sd,TC _ _ _ S->_)=>hX;clear hX))
   clear t1 t2 t3 t4 t6 t7 hown;clear hr hlm hl0 hg0;simp only[Bg,Lx.hasB]at *
   all_goals (try simp_all)
   all_goals (try omega)
   all_goals (try (cases r<;>first|rfl|(simp;omega)|omega))
 rintro⟨fine,parts,choices⟩ hx;simp only[Bg]at hx;obtain⟨rfl,rfl,rfl⟩:=hx;exact ja8 gl p w M .o _ _ _ hown
end
section
def Tk:List Nat:=[0,1,2,3,4,5,6,7,8,9,10,21,31,32,37,53,70,87,104,118,129,137,160,191,199,206,219,233,249]
attribute [local irreducible] Lx.Da Lx.Hf Lx.Dq Lx.Jf Lx.Dg Lx.Gr Lx.Iz Lx.ownB
attribute [local irreducible] TR TC
theorem qg3 (gl:List (Nat × List D))(p:Pr)(hkk:∀ g∈p.guards,0<=g.kind)(k:p.kind=9):FnD prog gl 91 [.d (dPr p)] (fun v=>v=.d (.bool (Lx.ownB p))):=by
 have t1:=x3 gl p.targets;have t2:=y8 gl p.exprs;have t3:=x6 gl p.chan;have t4:=fun a b lo hi=>y6 gl p.guards a b lo hi hkk;have t6:=y3 gl p.name;have t7:=z6 gl p.spec;clear hkk;simp only[r9]at t3;refine ja7 gl p fun w M r l0 g0 least most hr hl0 hg0 hlm=>?_;have hown:=je5 p r l0 g0 least most hr hl0 hg0 hlm;simp only[kl7,kl8,kl9,kl6,k,Int.reduceEq,or_self,or_true,true_or,or_false,false_or,if_true,if_false]at hown;refine g8 (ι:=Bool × Bool × Bool) (fun x=>oS gl p .o [(4,.d (.bool x.1)),(8,.d (.bool x.2.1)),(9,.d (.bool x.2.2))]) (fun x=>x=(true,!r || decide (p.l.length=1),g0)) ?_ ?_<;>dsimp only[oS,ozc,prC,exC,jt7,spC,kb4,Ac,Ad]
 ·(repeat' first|refine Ca 123 ?_;(first|refine yyp ?_;try refine Cc ?_ ?_<;>intro hb|refine yy2 ?_ ?_<;>intro hcmp);all_goals try refine Db true 123 8 Tk ?_|refine Ca 123 ?_;refine yyp ?_;try refine Cc ?_ ?_<;>intro hb|refine yyp ?_|refine yy ?_|refine yy2 ?_ ?_<;>intro hcmp|refine at_nil ?_;refine Ce Tk ?_|refine Cb fun K hK=>?_|apply_assumption -exfalso -symm)
  all_goals
   refine⟨(_,_,_),?_,v6⟩
   (repeat (rename (∀ S:Sd,TC _ _ _ S->_)=>hX;clear hX))
   clear t1 t2 t3 t4 t6 t7 hown;clear hr hlm hl0 hg0;simp only[Bg,Lx.hasB]at *
   all_goals (try simp_all)
   all_goals (try omega)
   all_goals (try (cases r<;>first|rfl|(simp;omega)|omega))
 rintro⟨fine,parts,choices⟩ hx;simp only[Bg]at hx;obtain⟨rfl,rfl,rfl⟩:=hx;exact ja8 gl p w M .o _ _ _ hown
theorem ms0 (gl:List (Nat × List D))(p:Pr)(hkk:∀ g∈p.guards,0<=g.kind)(k:p.kind=10):FnD prog gl 91 [.d (dPr p)] (fun v=>v=.d (.bool (Lx.ownB p))):=by
 have t1:=x3 gl p.targets;have t2:=y8 gl p.exprs;have t3:=x6 gl p.chan;have t4:=fun a b lo hi=>y6 gl p.guards a b lo hi hkk;have t6:=y3 gl p.name;have t7:=z6 gl p.spec;clear hkk;simp only[r9]at t3;refine ja7 gl p fun w M r l0 g0 least most hr hl0 hg0 hlm=>?_;have hown:=je5 p r l0 g0 least most hr hl0 hg0 hlm;simp only[kl7,kl8,kl9,kl6,k,Int.reduceEq,or_self,or_true,true_or,or_false,false_or,if_true,if_false]at hown;refine g8 (ι:=Bool × Bool × Bool) (fun x=>oS gl p .o [(4,.d (.bool x.1)),(8,.d (.bool x.2.1)),(9,.d (.bool x.2.2))]) (fun x=>x=(!r,decide (p.l.length=2),g0)) ?_ ?_<;>dsimp only[oS,ozc,prC,exC,jt7,spC,kb4,Ac,Ad]
 ·(repeat' first|refine yyp ?_|refine yy ?_|refine yy2 ?_ ?_<;>intro hcmp|refine at_nil ?_;refine Ce Tk ?_|refine Cb fun K hK=>?_|apply_assumption -exfalso -symm)
  all_goals
   refine⟨(_,_,_),?_,v6⟩
   (repeat (rename (∀ S:Sd,TC _ _ _ S->_)=>hX;clear hX))
   clear t1 t2 t3 t4 t6 t7 hown;clear hr hlm hl0 hg0;simp only[Bg,Lx.hasB]at *
   all_goals (try simp_all)
   all_goals (try omega)
   all_goals (try (cases r<;>first|rfl|(simp;omega)|omega))
 rintro⟨fine,parts,choices⟩ hx;simp only[Bg]at hx;obtain⟨rfl,rfl,rfl⟩:=hx;exact ja8 gl p w M .o _ _ _ hown
theorem ms1 (gl:List (Nat × List D))(p:Pr)(hkk:∀ g∈p.guards,0<=g.kind)(k:p.kind=12):FnD prog gl 91 [.d (dPr p)] (fun v=>v=.d (.bool (Lx.ownB p))):=by
 have t1:=x3 gl p.targets;have t2:=y8 gl p.exprs;have t3:=x6 gl p.chan;have t4:=fun a b lo hi=>y6 gl p.guards a b lo hi hkk;have t6:=y3 gl p.name;have t7:=z6 gl p.spec;clear hkk;simp only[r9]at t3;refine ja7 gl p fun w M r l0 g0 least most hr hl0 hg0 hlm=>?_;have hown:=je5 p r l0 g0 least most hr hl0 hg0 hlm;simp only[kl7,kl8,kl9,kl6,k,Int.reduceEq,or_self,or_true,true_or,or_false,false_or,if_true,if_false]at hown;refine g8 (ι:=Bool × Bool × Bool) (fun x=>oS gl p .o [(4,.d (.bool x.1)),(8,.d (.bool x.2.1)),(9,.d (.bool x.2.2))]) (fun x=>x=(true,l0,Lx.Dq p.guards least most 2 4)) ?_ ?_<;>dsimp only[oS,ozc,prC,exC,jt7,spC,kb4,Ac,Ad]
 ·(repeat' first|refine yyp ?_|refine yy ?_|refine yy2 ?_ ?_<;>intro hcmp|refine Cf 129 ?_;refine Cg (hc:=(t4 _ _ _ _)) ?_|refine at_nil ?_;refine Ce Tk ?_|refine Cb fun K hK=>?_|apply_assumption -exfalso -symm)
  all_goals
   refine⟨(_,_,_),?_,v6⟩
   (repeat (rename (∀ S:Sd,TC _ _ _ S->_)=>hX;clear hX))
   clear t1 t2 t3 t4 t6 t7 hown;clear hr hlm hl0 hg0;simp only[Bg,Lx.hasB]at *
   all_goals (try simp_all)
   all_goals (try omega)
   all_goals (try (cases r<;>first|rfl|(simp;omega)|omega))
 rintro⟨fine,parts,choices⟩ hx;simp only[Bg]at hx;obtain⟨rfl,rfl,rfl⟩:=hx;exact ja8 gl p w M .o _ _ _ hown
theorem ms3 (gl:List (Nat × List D))(p:Pr)(hkk:∀ g∈p.guards,0<=g.kind)(k:p.kind=13):FnD prog gl 91 [.d (dPr p)] (fun v=>v=.d (.bool (Lx.ownB p))):=by
 have t1:=x3 gl p.targets;have t2:=y8 gl p.exprs;have t3:=x6 gl p.chan;have t4:=fun a b lo hi=>y6 gl p.guards a b lo hi hkk;have t6:=y3 gl p.name;have t7:=z6 gl p.spec;clear hkk;simp only[r9]at t3;refine ja7 gl p fun w M r l0 g0 least most hr hl0 hg0 hlm=>?_;have hown:=je5 p r l0 g0 least most hr hl0 hg0 hlm;simp only[kl7,kl8,kl9,kl6,k,Int.reduceEq,or_self,or_true,true_or,or_false,false_or,if_true,if_false]at hown;refine g8 (ι:=Bool × Bool × Bool) (fun x=>oS gl p .o [(4,.d (.bool x.1)),(8,.d (.bool x.2.1)),(9,.d (.bool x.2.2))]) (fun x=>x=(true,l0,Lx.Dq p.guards least most 2 4)) ?_ ?_<;>dsimp only[oS,ozc,prC,exC,jt7,spC,kb4,Ac,Ad]
 ·(repeat' first|refine yyp ?_|refine yy ?_|refine yy2 ?_ ?_<;>intro hcmp|refine Cf 129 ?_;refine Cg (hc:=(t4 _ _ _ _)) ?_|refine at_nil ?_;refine Ce Tk ?_|refine Cb fun K hK=>?_|apply_assumption -exfalso -symm)
  all_goals
   refine⟨(_,_,_),?_,v6⟩
   (repeat (rename (∀ S:Sd,TC _ _ _ S->_)=>hX;clear hX))
   clear t1 t2 t3 t4 t6 t7 hown;clear hr hlm hl0 hg0;simp only[Bg,Lx.hasB]at *
   all_goals (try simp_all)
   all_goals (try omega)
   all_goals (try (cases r<;>first|rfl|(simp;omega)|omega))
 rintro⟨fine,parts,choices⟩ hx;simp only[Bg]at hx;obtain⟨rfl,rfl,rfl⟩:=hx;exact ja8 gl p w M .o _ _ _ hown
end
end Go.Proofs.YtdopmfifmgkmoaaGreatDoor
