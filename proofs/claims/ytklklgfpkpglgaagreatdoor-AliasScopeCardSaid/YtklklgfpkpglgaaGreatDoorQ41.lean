/- Parts. -/
import Derived.Test.YtklklgfpkpglgaaGreatDoorQ40
import Derived.Test.YtklklgfpkpglgaaGreatDoorQ21
set_option linter.all false
set_option maxRecDepth 100000
set_option maxHeartbeats 0
namespace Go.Proofs.YtklklgfpkpglgaaGreatDoor
open Go.RowKit Go.Proofs.Tryz Lx
variable (gl:List (Nat × List D))
section
def Km:List Nat:=[0,1,2,3,4,5,6,7,8,9,10,21,31,32,37,53,70,87,104,118,129,137,160,191,199,206,219,233,249]
def Lg:Int->Bool:=λn=>decide (0<=n) && decide (n<8)
def tlN:Nat->Code->Code
 |n+1,.seq _ y=>tlN n y
 |_,c=>c
inductive OZ where
 |o|te|ct|ce|c|p|e|ne|s
def ju5:List V:=[.d (.int .u8 0),.d (.int .u8 0),.d (.int .u8 0),.d (.int .i32 0),.d (.str ByteArray.empty),.nils 6]
def exC (e:Ex):List V:=[.d (.int .u8 e.kind),.d (.int .u8 e.op),.d (.int .u8 e.ty),.d (.int .i32 e.n),.d (.str e.s),.d (.list 6 (e.l.map dEx))]
def ke0:List V:=[.d (.int .u8 0),.d (.int .u8 0),.d (.int .i64 0),.d (.int .u8 0),.d (.str ByteArray.empty),.nils 1]++ju5++[.d (.bool false),.nils 2,.nils 6,.nils 42]
def spC (s:Sp):List V:=[.d (.int .u8 s.kind),.d (.int .u8 s.type.kind),.d (.int .i64 s.type.dim),.d (.int .u8 s.type.item),.d (.str s.type.aN),.d (.list 1 (s.names.map .str))]++exC s.e++[.d (.bool s.aN.cases),.d (.list 2 (s.aN.l.map dVa)),.d (.list 6 (s.ax.map dFo)),.d (.list 42 (s.body.map dPr))]
def prC (n:V)(c:List V)(t e ps:V)(s:List V):List V:=[.d (.int .u8 0),n]++c++[t,e,.d (.str ByteArray.empty)]++ju5++ju5++[.nils 0,.nils 0,ps]++s
def ozc (p:Pr):OZ->List V
 |.o=>prC (.d (.str p.name)) (exC p.av) (.d (.list 6 (p.aj.map dEx))) (.d (.list 6 (p.au.map dEx))) (.d (.list 1 (p.ay.map (.int .i64)))) (spC p.spec)
 |.te=>prC (.d (.str p.name)) (exC p.av) (.nils 0) (.nils 0) (.d (.list 1 (p.ay.map (.int .i64)))) (spC p.spec)
 |.ct=>prC (.d (.str p.name)) ju5 (.nils 0) (.d (.list 6 (p.au.map dEx))) (.d (.list 1 (p.ay.map (.int .i64)))) (spC p.spec)
 |.ce=>prC (.d (.str p.name)) ju5 (.d (.list 6 (p.aj.map dEx))) (.nils 0) (.d (.list 1 (p.ay.map (.int .i64)))) (spC p.spec)
 |.c=>prC (.d (.str p.name)) ju5 (.d (.list 6 (p.aj.map dEx))) (.d (.list 6 (p.au.map dEx))) (.d (.list 1 (p.ay.map (.int .i64)))) (spC p.spec)
 |.p=>prC (.d (.str p.name)) (exC p.av) (.d (.list 6 (p.aj.map dEx))) (.d (.list 6 (p.au.map dEx))) (.nils 0) (spC p.spec)
 |.e=>prC (.d (.str p.name)) (exC p.av) (.d (.list 6 (p.aj.map dEx))) (.nils 0) (.d (.list 1 (p.ay.map (.int .i64)))) (spC p.spec)
 |.ne=>prC (.d (.str ByteArray.empty)) (exC p.av) (.d (.list 6 (p.aj.map dEx))) (.nils 0) (.d (.list 1 (p.ay.map (.int .i64)))) (spC p.spec)
 |.s=>prC (.d (.str p.name)) (exC p.av) (.d (.list 6 (p.aj.map dEx))) (.d (.list 6 (p.au.map dEx))) (.d (.list 1 (p.ay.map (.int .i64)))) ke0
def oz0 (p:Pr):OZ->Pr
 |.o=>.mk 0 p.name p.av p.aj p.au rp0 [] [] p.ay p.spec
 |.te=>.mk 0 p.name p.av [] [] rp0 [] [] p.ay p.spec
 |.ct=>.mk 0 p.name ex0 [] p.au rp0 [] [] p.ay p.spec
 |.ce=>.mk 0 p.name ex0 p.aj [] rp0 [] [] p.ay p.spec
 |.c=>.mk 0 p.name ex0 p.aj p.au rp0 [] [] p.ay p.spec
 |.p=>.mk 0 p.name p.av p.aj p.au rp0 [] [] [] p.spec
 |.e=>.mk 0 p.name p.av p.aj [] rp0 [] [] p.ay p.spec
 |.ne=>.mk 0 ByteArray.empty p.av p.aj [] rp0 [] [] p.ay p.spec
 |.s=>.mk 0 p.name p.av p.aj p.au rp0 [] [] p.ay sp0
def oS (gl:List (Nat × List D))(p:Pr)(z:OZ)(env:List (Nat × V)):Sd:=⟨env++[(3,.ptr 3 0),(1,.d (.ref (kd1 p) 0)),(2,.d (.bool false)),(0,.d (dP p))],[(3,.box (ozc p z))],gl⟩
def kq1 (k:Int):OZ:=if k=3 then .te else if k=4 then .ct else if k=5\/k=6 then .ce else if k=7 then .c else if k=11 then .p else if k=15\/k=16 then .e else if k=17 then .ne else if k=18 then .s else .o
noncomputable def kq2 (p:Pr)(r:Bool)(k:Int):Bool:=if k=1\/k=2\/k=10 then !r else if k=3 then !r && Cq p.aj 1 8 Ga && Cq p.au 1 8 Gd else if k=4 then !r && Ga p.av && Cq p.aj 1 8 Ga else if k=5 then !r && Ga p.av && Cq p.au 1 9 Gd else if k=6 then !r && Ga p.av && Cq p.au 1 1 Gd else if k=7 then !r && Ga p.av else if k=8\/k=9\/k=12\/k=13\/k=14 then true else if k=11 then !r && decide (p.ay.length=p.l.length) && (decide (8<p.ay.length) || p.ay.all Lg) else if k=15\/k=16 then !r && Cq p.au 1 1 Gd else if k=17 then !r && Cw p.name && Cq p.au 0 8 Gd else if k=18 then !r && Hr p.spec else false
noncomputable def kq3 (p:Pr)(r l0:Bool)(k:Int):Bool:=if k=8\/k=9 then !r || decide (p.l.length=1) else if k=10 then decide (p.l.length=2) else if k=11 then Lx.hasB 1 8 p.l.length else if k=16\/k=18 then decide (p.l.length=1) else l0
noncomputable def kq4 (p:Pr)(g0:Bool)(least most k:Int):Bool:=if k=7 then Dq p.ak 1 16 7 7 else if k=12\/k=13 then Dq p.ak least most 2 4 else if k=14 then Dq p.ak least most 1 1 else if k=15 then Dq p.ak 0 16 5 6 else g0
attribute [local irreducible] TR TC
theorem je9 (p:Pr)(r l0 g0:Bool)(least most:Int)(hr:r=!decide (p.rep.name=ByteArray.empty))(h0:l0=decide (p.l.length=0))(hg:g0=decide (p.ak.length=0))(h:(least,most)=if r then ((1:Int),(1:Int)) else (0,16)):Lx.ownB p=(kq2 p r p.kind && (kq3 p r l0 p.kind && (kq4 p g0 least most p.kind && (Hw p.rep && eqB (oz0 p (kq1 p.kind)) pr0)))):=by
 subst hr h0 hg;have hl:least=if (!decide (p.rep.name=ByteArray.empty))=true then 1 else 0:=by
  by_cases h0:p.rep.name=ByteArray.empty<;>simp[h0]at h ⊢<;>exact h.1
 have hm:most=if (!decide (p.rep.name=ByteArray.empty))=true then 1 else 16:=by
  by_cases h0:p.rep.name=ByteArray.empty<;>simp[h0]at h ⊢<;>exact h.2
 subst hl hm;clear h;have hz:∀ (a:Int) b c d e f g h i j,eqB (Pr.mk a b c d e f g h i j) pr0=(decide (a=0) && decide (b=ByteArray.empty) && eqB c ex0 && decide (d.length=0) && decide (e.length=0) && eqB f rp0 && decide (g.length=0) && decide (h.length=0) && decide (i.length=0) && eqB j sp0):=λa b c d e f g h i j=>by
  rw[Ej,j9];simp only[pr0,Pr.mk.injEq,Aa,Ah,j9,Em,and_assoc]
 have he:eqB ex0 ex0=true:=j9.2 rfl;have hr:eqB rp0 rp0=true:=j9.2 rfl;have hs:eqB sp0 sp0=true:=j9.2 rfl;have hok:Lg=λn=>decide (0<=n) && decide (n<8):=rfl;rw[Ej];have hk:(p.kind=1\/p.kind=2\/p.kind=3\/p.kind=4\/p.kind=5\/p.kind=6\/p.kind=7\/p.kind=8\/p.kind=9\/p.kind=10\/p.kind=11\/p.kind=12\/p.kind=13\/p.kind=14\/p.kind=15\/p.kind=16\/p.kind=17\/p.kind=18)\/(p.kind≠1/\p.kind≠2/\p.kind≠3/\p.kind≠4/\p.kind≠5/\p.kind≠6/\p.kind≠7/\p.kind≠8/\p.kind≠9/\p.kind≠10/\p.kind≠11/\p.kind≠12/\p.kind≠13/\p.kind≠14/\p.kind≠15/\p.kind≠16/\p.kind≠17/\p.kind≠18):=by omega
 unfold Lx.ownB;rcases hk with (k|k|k|k|k|k|k|k|k|k|k|k|k|k|k|k|k|k)|k
 all_goals
  simp only[Ia,Ip,oz0,kq1,kq2,kq3,kq4,hz,he,hr,hs,k,hok,Int.reduceEq,or_self,or_true,true_or,or_false,false_or,if_true,if_false,ite_self,ne_eq,not_true_eq_false,not_false_eq_true,decide_true,decide_false,Az,Bool.not_not,Bf,Bu,As,Be,Ec,Ee,Ef,Eh,Aa,Bn,Ah,Bb,iff_false,false_iff]
  first
   |done
   |grind [Lx.hasB]
attribute [local irreducible] Cq Ga Dq Hr Cw Gd Hw Lx.ownB
theorem ja5 (p:Pr){R:V->Prop}(hgo:∀ w M (r l0 g0:Bool) (least most:Int),r=(!decide (p.rep.name=ByteArray.empty))->l0=decide (p.l.length=0)->g0=decide (p.ak.length=0)->(least,most)=(if r then ((1:Int),(1:Int)) else (0,16))->TC ⟨prog,Ctx.fn 281 w M,none⟩ (tlN 13 (Tryz.f67.body.getD .skip)) (Ends prog [.tmp 2] R) (oS gl p .o [(9,.d (.bool g0)),(8,.d (.bool l0)),(7,.d (.int .i64 least)),(6,.d (.int .i64 most)),(5,.d (.bool r)),(4,.d (.bool false))])):FnD prog gl 67 [.d (dPr p)] R:=by
 rw[v7]
 (refine j4 func67 ntmps67 results67 λw M=>?_)
 refine Cb λK0 h0=>?_
 (refine y6 (id:=0) ?_;(repeat' first|apply Ca 1;(refine Ck 1 ?_)|refine yyp ?_;try refine Ce ?_ ?_<;>intro hb|apply ah;refine Cc Km ?_))
 refine h0 _ ?_;clear h0 K0;refine jo2 (t:=1) (env':=[(2,.d (.bool false)),(0,.d (dP p))]) (H':=[]) rfl rfl (by repeat (first|exact .nil|apply Frz.cons (.d _))) rfl (by(repeat (first|exact Sub.nil|apply Sub.cons rfl));fail_if_success intros) (by(repeat (first|exact Sub.nil|apply Sub.cons rfl));fail_if_success intros) rfl rfl ?_
 ((repeat' first|apply Ca 3;(refine j2 3 ?_)|apply Ca 15;refine z_p Cu ?_|apply Cg 6;refine halt ?_|refine yyp ?_|refine yy ?_|apply ah;refine Cc Km ?_|refine Cb λK hK=>?_|apply_assumption -exfalso -symm);all_goals try refine unhalt ?_)
 (refine y6 (id:=6) ?_;(repeat' first|refine yyp ?_;try refine Ce ?_ ?_<;>intro hb|apply ah;refine Cc Km ?_))
 apply_assumption -exfalso -symm
 refine z7 (ι:=Bool) (λr=>oS gl p .o [(5,.d (.bool r)),(4,.d (.bool false))]) (λr=>r=!decide (p.rep.name=ByteArray.empty)) ?_ ?_<;>dsimp only[oS,ozc,prC,exC,ju5,spC,ke0,Ac,Ae]
 ·(repeat' first|refine yyp ?_|refine yy ?_|refine yy2 ?_ ?_<;>intro hcmp|apply ah;refine Cc Km ?_|refine Cb λK hK=>?_|apply_assumption -exfalso -symm)
  all_goals
   refine⟨_,?_,v6⟩
   (repeat (rename (∀ S,TC _ _ _ S->_)=>hX;clear hX))
   clear hgo;simp_all [jf5]
 rintro r hr
 ((repeat' first|apply Cg 9;refine halt ?_|refine yyp ?_|refine yy ?_|apply ah;refine Cc Km ?_|refine Cb λK hK=>?_|apply_assumption -exfalso -symm);all_goals try refine unhalt ?_)
 (refine y6 (id:=9) ?_;(repeat' first|refine yyp ?_;try refine Ce ?_ ?_<;>intro hb|apply ah;refine Cc Km ?_))
 apply_assumption -exfalso -symm
 refine z7 (ι:=Int × Int) (λx=>oS gl p .o [(7,.d (.int .i64 x.1)),(6,.d (.int .i64 x.2)),(5,.d (.bool r)),(4,.d (.bool false))]) (λx=>x=if r then (1,1) else (0,16)) ?_ ?_<;>dsimp only[oS,ozc,prC,exC,ju5,spC,ke0,Ac,Ae]
 ·(repeat' first|apply Ca 21;refine yyp ?_;try refine Ce ?_ ?_<;>intro hb|refine yyp ?_|refine yy ?_|apply ah;refine Cc Km ?_|refine Cb λK hK=>?_|apply_assumption -exfalso -symm)
  all_goals
   refine⟨(_,_),?_,v6⟩
   (repeat (rename (∀ S,TC _ _ _ S->_)=>hX;clear hX))
   clear hgo;simp_all
 rintro⟨least,most⟩ hlm;dsimp only;refine z7 (ι:=Bool) (λl0=>oS gl p .o [(8,.d (.bool l0)),(7,.d (.int .i64 least)),(6,.d (.int .i64 most)),(5,.d (.bool r)),(4,.d (.bool false))]) (λl0=>l0=decide (p.l.length=0)) ?_ ?_<;>dsimp only[oS,ozc,prC,exC,ju5,spC,ke0,Ac,Ae]
 ·(repeat' first|refine yyp ?_|refine yy ?_|refine yy2 ?_ ?_<;>intro hcmp|apply ah;refine Cc Km ?_|refine Cb λK hK=>?_|apply_assumption -exfalso -symm)
  all_goals
   refine⟨_,?_,v6⟩
   (repeat (rename (∀ S,TC _ _ _ S->_)=>hX;clear hX))
   clear hgo;simp_all
 rintro l0 hl0;refine z7 (ι:=Bool) (λg0=>oS gl p .o [(9,.d (.bool g0)),(8,.d (.bool l0)),(7,.d (.int .i64 least)),(6,.d (.int .i64 most)),(5,.d (.bool r)),(4,.d (.bool false))]) (λg0=>g0=decide (p.ak.length=0)) ?_ ?_<;>dsimp only[oS,ozc,prC,exC,ju5,spC,ke0,Ac,Ae]
 ·(repeat' first|refine yyp ?_|refine yy ?_|refine yy2 ?_ ?_<;>intro hcmp|apply ah;refine Cc Km ?_|refine Cb λK hK=>?_|apply_assumption -exfalso -symm)
  all_goals
   refine⟨_,?_,v6⟩
   (repeat (rename (∀ S,TC _ _ _ S->_)=>hX;clear hX))
   clear hgo;simp_all
 rintro g0 hg0;exact hgo w M r l0 g0 least most hr hl0 hg0 hlm
theorem ja6 (p:Pr)(w:World)(M:Nat->Nat->Prop)(z:OZ)(fine parts choices:Bool)(hown:Lx.ownB p=(fine && (parts && (choices && (Hw p.rep && eqB (oz0 p z) pr0))))):TC ⟨prog,Ctx.fn 281 w M,none⟩ (tlN 14 (Tryz.f67.body.getD .skip)) (Ends prog [.tmp 2] (λv=>v=.d (.bool (Lx.ownB p)))) (oS gl p z [(4,.d (.bool fine)),(8,.d (.bool parts)),(9,.d (.bool choices))]):=by
 have t5:=rg7 gl p.rep;have wS:=ky5 gl (oz0 p z) pr0;cases z
 all_goals as_aux_lemma=>
  simp only[oz0]at hown wS;rw[v7]at wS;dsimp only[oS,ozc,prC,exC,ju5,spC,ke0,Ac,Ae]
  (repeat' first|refine zas [265,268,271,276] ?_;(first|refine yyp ?_;try refine Ce ?_ ?_<;>intro hb|refine yy2 ?_ ?_<;>intro hcmp);all_goals try (first|refine Dj false 265 2 Km ?_|refine Dj false 268 2 Km ?_|refine Dj false 271 2 Km ?_|refine Dj false 276 2 Km ?_)|refine yyp ?_|refine yy ?_|apply Cf 114;refine Ci (hc:=t5) ?_|apply Cf 115;refine Ci (hc:=(by first|exact wS)) ?_|apply ah;refine Cc Km ?_|refine Cb λK hK=>?_|apply_assumption -exfalso -symm)
  all_goals
   (refine j1 (j7 ?_))
   (repeat (rename (∀ S,TC _ _ _ S->_)=>hX;clear hX))
   clear t5 wS;simp only[aF,At,Am,hown];simp_all
end
section
def Qk:List Nat:=[0,1,2,3,4,5,6,7,8,9,10,21,31,32,37,53,70,87,104,118,129,137,160,191,199,206,219,233,249]
attribute [local irreducible] Cq Ga Dq Hr Cw Gd Hw Lx.ownB
attribute [local irreducible] TR TC
theorem qp7 (p:Pr)(hkk:∀ g∈p.ak,0<=g.kind)(k:p.kind=1):FnD prog gl 67 [.d (dPr p)] (λv=>v=.d (.bool (Lx.ownB p))):=by
 have t1:=v8 gl p.aj;have t2:=y5 gl p.au;have t3:=x3 gl p.av;have t4:=λa b lo hi=>x9 gl p.ak a b lo hi hkk;have t6:=x7 gl p.name;have t7:=y8 gl p.spec;clear hkk;simp only[r8]at t3;refine ja5 gl p λw M r l0 g0 least most hr hl0 hg0 hlm=>?_;have hown:=je9 p r l0 g0 least most hr hl0 hg0 hlm;simp only[kq2,kq3,kq4,kq1,k,Int.reduceEq,or_self,or_true,true_or,or_false,false_or,if_true,if_false]at hown;refine z7 (ι:=Bool × Bool × Bool) (λx=>oS gl p .o [(4,.d (.bool x.1)),(8,.d (.bool x.2.1)),(9,.d (.bool x.2.2))]) (λx=>x=(!r,l0,g0)) ?_ ?_<;>dsimp only[oS,ozc,prC,exC,ju5,spC,ke0,Ac,Ae]
 ·(repeat' first|refine yyp ?_|refine yy ?_|apply ah;refine Cc Qk ?_|refine Cb λK hK=>?_|apply_assumption -exfalso -symm)
  all_goals
   refine⟨(_,_,_),?_,v6⟩
   (repeat (rename (∀ S,TC _ _ _ S->_)=>hX;clear hX))
   clear t1 t2 t3 t4 t6 t7 hown;clear hr hlm hl0 hg0;simp only[Bh,Lx.hasB]at *
   all_goals (try simp_all)
   all_goals (try omega)
   all_goals (try (cases r<;>first|rfl|(simp;omega)|omega))
 rintro⟨fine,parts,choices⟩ hx;simp only[Bh]at hx;obtain⟨rfl,rfl,rfl⟩:=hx;exact ja6 gl p w M .o _ _ _ hown
theorem qp8 (p:Pr)(hkk:∀ g∈p.ak,0<=g.kind)(k:p.kind=2):FnD prog gl 67 [.d (dPr p)] (λv=>v=.d (.bool (Lx.ownB p))):=by
 have t1:=v8 gl p.aj;have t2:=y5 gl p.au;have t3:=x3 gl p.av;have t4:=λa b lo hi=>x9 gl p.ak a b lo hi hkk;have t6:=x7 gl p.name;have t7:=y8 gl p.spec;clear hkk;simp only[r8]at t3;refine ja5 gl p λw M r l0 g0 least most hr hl0 hg0 hlm=>?_;have hown:=je9 p r l0 g0 least most hr hl0 hg0 hlm;simp only[kq2,kq3,kq4,kq1,k,Int.reduceEq,or_self,or_true,true_or,or_false,false_or,if_true,if_false]at hown;refine z7 (ι:=Bool × Bool × Bool) (λx=>oS gl p .o [(4,.d (.bool x.1)),(8,.d (.bool x.2.1)),(9,.d (.bool x.2.2))]) (λx=>x=(!r,l0,g0)) ?_ ?_<;>dsimp only[oS,ozc,prC,exC,ju5,spC,ke0,Ac,Ae]
 ·(repeat' first|refine yyp ?_|refine yy ?_|apply ah;refine Cc Qk ?_|refine Cb λK hK=>?_|apply_assumption -exfalso -symm)
  all_goals
   refine⟨(_,_,_),?_,v6⟩
   (repeat (rename (∀ S,TC _ _ _ S->_)=>hX;clear hX))
   clear t1 t2 t3 t4 t6 t7 hown;clear hr hlm hl0 hg0;simp only[Bh,Lx.hasB]at *
   all_goals (try simp_all)
   all_goals (try omega)
   all_goals (try (cases r<;>first|rfl|(simp;omega)|omega))
 rintro⟨fine,parts,choices⟩ hx;simp only[Bh]at hx;obtain⟨rfl,rfl,rfl⟩:=hx;exact ja6 gl p w M .o _ _ _ hown
theorem qp9 (p:Pr)(hkk:∀ g∈p.ak,0<=g.kind)(k:p.kind=3):FnD prog gl 67 [.d (dPr p)] (λv=>v=.d (.bool (Lx.ownB p))):=by
 have t1:=v8 gl p.aj;have t2:=y5 gl p.au;have t3:=x3 gl p.av;have t4:=λa b lo hi=>x9 gl p.ak a b lo hi hkk;have t6:=x7 gl p.name;have t7:=y8 gl p.spec;clear hkk;simp only[r8]at t3;refine ja5 gl p λw M r l0 g0 least most hr hl0 hg0 hlm=>?_;have hown:=je9 p r l0 g0 least most hr hl0 hg0 hlm;simp only[kq2,kq3,kq4,kq1,k,Int.reduceEq,or_self,or_true,true_or,or_false,false_or,if_true,if_false]at hown;refine z7 (ι:=Bool × Bool × Bool) (λx=>oS gl p .te [(4,.d (.bool x.1)),(8,.d (.bool x.2.1)),(9,.d (.bool x.2.2))]) (λx=>x=(!r && Cq p.aj 1 8 Ga && Cq p.au 1 8 Gd,l0,g0)) ?_ ?_<;>dsimp only[oS,ozc,prC,exC,ju5,spC,ke0,Ac,Ae]
 ·(repeat' first|refine zas [41,46] ?_;(first|refine yyp ?_;try refine Ce ?_ ?_<;>intro hb|refine yy2 ?_ ?_<;>intro hcmp);all_goals try (first|refine Dj false 41 4 Qk ?_|refine Dj false 46 4 Qk ?_)|refine yyp ?_|refine yy ?_|apply Cf 108;refine Ci (hc:=(t1 _ _)) ?_|apply Cf 109;refine Ci (hc:=(t2 _ _)) ?_|apply ah;refine Cc Qk ?_|refine Cb λK hK=>?_|apply_assumption -exfalso -symm)
  all_goals
   refine⟨(_,_,_),?_,v6⟩
   (repeat (rename (∀ S,TC _ _ _ S->_)=>hX;clear hX))
   clear t1 t2 t3 t4 t6 t7 hown;clear hr hlm hl0 hg0;simp only[Bh,Lx.hasB]at *
   all_goals (try simp_all)
   all_goals (try omega)
   all_goals (try (cases r<;>first|rfl|(simp;omega)|omega))
 rintro⟨fine,parts,choices⟩ hx;simp only[Bh]at hx;obtain⟨rfl,rfl,rfl⟩:=hx;exact ja6 gl p w M .te _ _ _ hown
theorem qq0 (p:Pr)(hkk:∀ g∈p.ak,0<=g.kind)(k:p.kind=4):FnD prog gl 67 [.d (dPr p)] (λv=>v=.d (.bool (Lx.ownB p))):=by
 have t1:=v8 gl p.aj;have t2:=y5 gl p.au;have t3:=x3 gl p.av;have t4:=λa b lo hi=>x9 gl p.ak a b lo hi hkk;have t6:=x7 gl p.name;have t7:=y8 gl p.spec;clear hkk;simp only[r8]at t3;refine ja5 gl p λw M r l0 g0 least most hr hl0 hg0 hlm=>?_;have hown:=je9 p r l0 g0 least most hr hl0 hg0 hlm;simp only[kq2,kq3,kq4,kq1,k,Int.reduceEq,or_self,or_true,true_or,or_false,false_or,if_true,if_false]at hown;refine z7 (ι:=Bool × Bool × Bool) (λx=>oS gl p .ct [(4,.d (.bool x.1)),(8,.d (.bool x.2.1)),(9,.d (.bool x.2.2))]) (λx=>x=(!r && Ga p.av && Cq p.aj 1 8 Ga,l0,g0)) ?_ ?_<;>dsimp only[oS,ozc,prC,exC,ju5,spC,ke0,Ac,Ae]
 ·(repeat' first|refine zas [57,62] ?_;(first|refine yyp ?_;try refine Ce ?_ ?_<;>intro hb|refine yy2 ?_ ?_<;>intro hcmp);all_goals try (first|refine Dj false 57 4 Qk ?_|refine Dj false 62 4 Qk ?_)|apply Ca 67;refine z_p Cu ?_|refine yyp ?_|refine yy ?_|apply Cf 110;refine Ci (hc:=t3) ?_|apply Cf 108;refine Ci (hc:=(t1 _ _)) ?_|apply ah;refine Cc Qk ?_|refine Cb λK hK=>?_|apply_assumption -exfalso -symm)
  all_goals
   refine⟨(_,_,_),?_,v6⟩
   (repeat (rename (∀ S,TC _ _ _ S->_)=>hX;clear hX))
   clear t1 t2 t3 t4 t6 t7 hown;clear hr hlm hl0 hg0;simp only[Bh,Lx.hasB]at *
   all_goals (try simp_all)
   all_goals (try omega)
   all_goals (try (cases r<;>first|rfl|(simp;omega)|omega))
 rintro⟨fine,parts,choices⟩ hx;simp only[Bh]at hx;obtain⟨rfl,rfl,rfl⟩:=hx;exact ja6 gl p w M .ct _ _ _ hown
end
section
def Oh:List Nat:=[0,1,2,3,4,5,6,7,8,9,10,21,31,32,37,53,70,87,104,118,129,137,160,191,199,206,219,233,249]
attribute [local irreducible] Cq Ga Dq Hr Cw Gd Hw Lx.ownB
attribute [local irreducible] TR TC
theorem qq1 (p:Pr)(hkk:∀ g∈p.ak,0<=g.kind)(k:p.kind=5):FnD prog gl 67 [.d (dPr p)] (λv=>v=.d (.bool (Lx.ownB p))):=by
 have t1:=v8 gl p.aj;have t2:=y5 gl p.au;have t3:=x3 gl p.av;have t4:=λa b lo hi=>x9 gl p.ak a b lo hi hkk;have t6:=x7 gl p.name;have t7:=y8 gl p.spec;clear hkk;simp only[r8]at t3;refine ja5 gl p λw M r l0 g0 least most hr hl0 hg0 hlm=>?_;have hown:=je9 p r l0 g0 least most hr hl0 hg0 hlm;simp only[kq2,kq3,kq4,kq1,k,Int.reduceEq,or_self,or_true,true_or,or_false,false_or,if_true,if_false]at hown;refine z7 (ι:=Bool × Bool × Bool) (λx=>oS gl p .ce [(4,.d (.bool x.1)),(8,.d (.bool x.2.1)),(9,.d (.bool x.2.2))]) (λx=>x=(!r && Ga p.av && Cq p.au 1 9 Gd,l0,g0)) ?_ ?_<;>dsimp only[oS,ozc,prC,exC,ju5,spC,ke0,Ac,Ae]
 ·(repeat' first|refine zas [74,79] ?_;(first|refine yyp ?_;try refine Ce ?_ ?_<;>intro hb|refine yy2 ?_ ?_<;>intro hcmp);all_goals try (first|refine Dj false 74 4 Oh ?_|refine Dj false 79 4 Oh ?_)|apply Ca 84;refine z_p Cu ?_|refine yyp ?_|refine yy ?_|apply Cf 110;refine Ci (hc:=t3) ?_|apply Cf 109;refine Ci (hc:=(t2 _ _)) ?_|apply ah;refine Cc Oh ?_|refine Cb λK hK=>?_|apply_assumption -exfalso -symm)
  all_goals
   refine⟨(_,_,_),?_,v6⟩
   (repeat (rename (∀ S,TC _ _ _ S->_)=>hX;clear hX))
   clear t1 t2 t3 t4 t6 t7 hown;clear hr hlm hl0 hg0;simp only[Bh,Lx.hasB]at *
   all_goals (try simp_all)
   all_goals (try omega)
   all_goals (try (cases r<;>first|rfl|(simp;omega)|omega))
 rintro⟨fine,parts,choices⟩ hx;simp only[Bh]at hx;obtain⟨rfl,rfl,rfl⟩:=hx;exact ja6 gl p w M .ce _ _ _ hown
theorem qq2 (p:Pr)(hkk:∀ g∈p.ak,0<=g.kind)(k:p.kind=6):FnD prog gl 67 [.d (dPr p)] (λv=>v=.d (.bool (Lx.ownB p))):=by
 have t1:=v8 gl p.aj;have t2:=y5 gl p.au;have t3:=x3 gl p.av;have t4:=λa b lo hi=>x9 gl p.ak a b lo hi hkk;have t6:=x7 gl p.name;have t7:=y8 gl p.spec;clear hkk;simp only[r8]at t3;refine ja5 gl p λw M r l0 g0 least most hr hl0 hg0 hlm=>?_;have hown:=je9 p r l0 g0 least most hr hl0 hg0 hlm;simp only[kq2,kq3,kq4,kq1,k,Int.reduceEq,or_self,or_true,true_or,or_false,false_or,if_true,if_false]at hown;refine z7 (ι:=Bool × Bool × Bool) (λx=>oS gl p .ce [(4,.d (.bool x.1)),(8,.d (.bool x.2.1)),(9,.d (.bool x.2.2))]) (λx=>x=(!r && Ga p.av && Cq p.au 1 1 Gd,l0,g0)) ?_ ?_<;>dsimp only[oS,ozc,prC,exC,ju5,spC,ke0,Ac,Ae]
 ·(repeat' first|refine zas [91,96] ?_;(first|refine yyp ?_;try refine Ce ?_ ?_<;>intro hb|refine yy2 ?_ ?_<;>intro hcmp);all_goals try (first|refine Dj false 91 4 Oh ?_|refine Dj false 96 4 Oh ?_)|apply Ca 101;refine z_p Cu ?_|refine yyp ?_|refine yy ?_|apply Cf 110;refine Ci (hc:=t3) ?_|apply Cf 109;refine Ci (hc:=(t2 _ _)) ?_|apply ah;refine Cc Oh ?_|refine Cb λK hK=>?_|apply_assumption -exfalso -symm)
  all_goals
   refine⟨(_,_,_),?_,v6⟩
   (repeat (rename (∀ S,TC _ _ _ S->_)=>hX;clear hX))
   clear t1 t2 t3 t4 t6 t7 hown;clear hr hlm hl0 hg0;simp only[Bh,Lx.hasB]at *
   all_goals (try simp_all)
   all_goals (try omega)
   all_goals (try (cases r<;>first|rfl|(simp;omega)|omega))
 rintro⟨fine,parts,choices⟩ hx;simp only[Bh]at hx;obtain⟨rfl,rfl,rfl⟩:=hx;exact ja6 gl p w M .ce _ _ _ hown
theorem qq3 (p:Pr)(hkk:∀ g∈p.ak,0<=g.kind)(k:p.kind=7):FnD prog gl 67 [.d (dPr p)] (λv=>v=.d (.bool (Lx.ownB p))):=by
 have t1:=v8 gl p.aj;have t2:=y5 gl p.au;have t3:=x3 gl p.av;have t4:=λa b lo hi=>x9 gl p.ak a b lo hi hkk;have t6:=x7 gl p.name;have t7:=y8 gl p.spec;clear hkk;simp only[r8]at t3;refine ja5 gl p λw M r l0 g0 least most hr hl0 hg0 hlm=>?_;have hown:=je9 p r l0 g0 least most hr hl0 hg0 hlm;simp only[kq2,kq3,kq4,kq1,k,Int.reduceEq,or_self,or_true,true_or,or_false,false_or,if_true,if_false]at hown;refine z7 (ι:=Bool × Bool × Bool) (λx=>oS gl p .c [(4,.d (.bool x.1)),(8,.d (.bool x.2.1)),(9,.d (.bool x.2.2))]) (λx=>x=(!r && Ga p.av,l0,Dq p.ak 1 16 7 7)) ?_ ?_<;>dsimp only[oS,ozc,prC,exC,ju5,spC,ke0,Ac,Ae]
 ·(repeat' first|apply Ca 108;(first|refine yyp ?_;try refine Ce ?_ ?_<;>intro hb|refine yy2 ?_ ?_<;>intro hcmp);all_goals try refine Dj false 108 4 Oh ?_|apply Ca 116;refine z_p Cu ?_|refine yyp ?_|refine yy ?_|apply Cf 110;refine Ci (hc:=t3) ?_|apply Cf 111;refine Ci (hc:=(t4 _ _ _ _)) ?_|apply ah;refine Cc Oh ?_|refine Cb λK hK=>?_|apply_assumption -exfalso -symm)
  all_goals
   refine⟨(_,_,_),?_,v6⟩
   (repeat (rename (∀ S,TC _ _ _ S->_)=>hX;clear hX))
   clear t1 t2 t3 t4 t6 t7 hown;clear hr hlm hl0 hg0;simp only[Bh,Lx.hasB]at *
   all_goals (try simp_all)
   all_goals (try omega)
   all_goals (try (cases r<;>first|rfl|(simp;omega)|omega))
 rintro⟨fine,parts,choices⟩ hx;simp only[Bh]at hx;obtain⟨rfl,rfl,rfl⟩:=hx;exact ja6 gl p w M .c _ _ _ hown
theorem qq4 (p:Pr)(hkk:∀ g∈p.ak,0<=g.kind)(k:p.kind=8):FnD prog gl 67 [.d (dPr p)] (λv=>v=.d (.bool (Lx.ownB p))):=by
 have t1:=v8 gl p.aj;have t2:=y5 gl p.au;have t3:=x3 gl p.av;have t4:=λa b lo hi=>x9 gl p.ak a b lo hi hkk;have t6:=x7 gl p.name;have t7:=y8 gl p.spec;clear hkk;simp only[r8]at t3;refine ja5 gl p λw M r l0 g0 least most hr hl0 hg0 hlm=>?_;have hown:=je9 p r l0 g0 least most hr hl0 hg0 hlm;simp only[kq2,kq3,kq4,kq1,k,Int.reduceEq,or_self,or_true,true_or,or_false,false_or,if_true,if_false]at hown;refine z7 (ι:=Bool × Bool × Bool) (λx=>oS gl p .o [(4,.d (.bool x.1)),(8,.d (.bool x.2.1)),(9,.d (.bool x.2.2))]) (λx=>x=(true,!r || decide (p.l.length=1),g0)) ?_ ?_<;>dsimp only[oS,ozc,prC,exC,ju5,spC,ke0,Ac,Ae]
 ·(repeat' first|apply Ca 123;(first|refine yyp ?_;try refine Ce ?_ ?_<;>intro hb|refine yy2 ?_ ?_<;>intro hcmp);all_goals try refine Dj true 123 8 Oh ?_|refine yyp ?_|refine yy ?_|refine yy2 ?_ ?_<;>intro hcmp|apply ah;refine Cc Oh ?_|refine Cb λK hK=>?_|apply_assumption -exfalso -symm)
  all_goals
   refine⟨(_,_,_),?_,v6⟩
   (repeat (rename (∀ S,TC _ _ _ S->_)=>hX;clear hX))
   clear t1 t2 t3 t4 t6 t7 hown;clear hr hlm hl0 hg0;simp only[Bh,Lx.hasB]at *
   all_goals (try simp_all)
   all_goals (try omega)
   all_goals (try (cases r<;>first|rfl|(simp;omega)|omega))
 rintro⟨fine,parts,choices⟩ hx;simp only[Bh]at hx;obtain⟨rfl,rfl,rfl⟩:=hx;exact ja6 gl p w M .o _ _ _ hown
end
section
def Tq:List Nat:=[0,1,2,3,4,5,6,7,8,9,10,21,31,32,37,53,70,87,104,118,129,137,160,191,199,206,219,233,249]
attribute [local irreducible] Cq Ga Dq Hr Cw Gd Hw Lx.ownB
attribute [local irreducible] TR TC
theorem qq5 (p:Pr)(hkk:∀ g∈p.ak,0<=g.kind)(k:p.kind=9):FnD prog gl 67 [.d (dPr p)] (λv=>v=.d (.bool (Lx.ownB p))):=by
 have t1:=v8 gl p.aj;have t2:=y5 gl p.au;have t3:=x3 gl p.av;have t4:=λa b lo hi=>x9 gl p.ak a b lo hi hkk;have t6:=x7 gl p.name;have t7:=y8 gl p.spec;clear hkk;simp only[r8]at t3;refine ja5 gl p λw M r l0 g0 least most hr hl0 hg0 hlm=>?_;have hown:=je9 p r l0 g0 least most hr hl0 hg0 hlm;simp only[kq2,kq3,kq4,kq1,k,Int.reduceEq,or_self,or_true,true_or,or_false,false_or,if_true,if_false]at hown;refine z7 (ι:=Bool × Bool × Bool) (λx=>oS gl p .o [(4,.d (.bool x.1)),(8,.d (.bool x.2.1)),(9,.d (.bool x.2.2))]) (λx=>x=(true,!r || decide (p.l.length=1),g0)) ?_ ?_<;>dsimp only[oS,ozc,prC,exC,ju5,spC,ke0,Ac,Ae]
 ·(repeat' first|apply Ca 123;(first|refine yyp ?_;try refine Ce ?_ ?_<;>intro hb|refine yy2 ?_ ?_<;>intro hcmp);all_goals try refine Dj true 123 8 Tq ?_|refine yyp ?_|refine yy ?_|refine yy2 ?_ ?_<;>intro hcmp|apply ah;refine Cc Tq ?_|refine Cb λK hK=>?_|apply_assumption -exfalso -symm)
  all_goals
   refine⟨(_,_,_),?_,v6⟩
   (repeat (rename (∀ S,TC _ _ _ S->_)=>hX;clear hX))
   clear t1 t2 t3 t4 t6 t7 hown;clear hr hlm hl0 hg0;simp only[Bh,Lx.hasB]at *
   all_goals (try simp_all)
   all_goals (try omega)
   all_goals (try (cases r<;>first|rfl|(simp;omega)|omega))
 rintro⟨fine,parts,choices⟩ hx;simp only[Bh]at hx;obtain⟨rfl,rfl,rfl⟩:=hx;exact ja6 gl p w M .o _ _ _ hown
theorem qc1 (p:Pr)(hkk:∀ g∈p.ak,0<=g.kind)(k:p.kind=10):FnD prog gl 67 [.d (dPr p)] (λv=>v=.d (.bool (Lx.ownB p))):=by
 have t1:=v8 gl p.aj;have t2:=y5 gl p.au;have t3:=x3 gl p.av;have t4:=λa b lo hi=>x9 gl p.ak a b lo hi hkk;have t6:=x7 gl p.name;have t7:=y8 gl p.spec;clear hkk;simp only[r8]at t3;refine ja5 gl p λw M r l0 g0 least most hr hl0 hg0 hlm=>?_;have hown:=je9 p r l0 g0 least most hr hl0 hg0 hlm;simp only[kq2,kq3,kq4,kq1,k,Int.reduceEq,or_self,or_true,true_or,or_false,false_or,if_true,if_false]at hown;refine z7 (ι:=Bool × Bool × Bool) (λx=>oS gl p .o [(4,.d (.bool x.1)),(8,.d (.bool x.2.1)),(9,.d (.bool x.2.2))]) (λx=>x=(!r,decide (p.l.length=2),g0)) ?_ ?_<;>dsimp only[oS,ozc,prC,exC,ju5,spC,ke0,Ac,Ae]
 ·(repeat' first|refine yyp ?_|refine yy ?_|refine yy2 ?_ ?_<;>intro hcmp|apply ah;refine Cc Tq ?_|refine Cb λK hK=>?_|apply_assumption -exfalso -symm)
  all_goals
   refine⟨(_,_,_),?_,v6⟩
   (repeat (rename (∀ S,TC _ _ _ S->_)=>hX;clear hX))
   clear t1 t2 t3 t4 t6 t7 hown;clear hr hlm hl0 hg0;simp only[Bh,Lx.hasB]at *
   all_goals (try simp_all)
   all_goals (try omega)
   all_goals (try (cases r<;>first|rfl|(simp;omega)|omega))
 rintro⟨fine,parts,choices⟩ hx;simp only[Bh]at hx;obtain⟨rfl,rfl,rfl⟩:=hx;exact ja6 gl p w M .o _ _ _ hown
theorem qc2 (p:Pr)(hkk:∀ g∈p.ak,0<=g.kind)(k:p.kind=12):FnD prog gl 67 [.d (dPr p)] (λv=>v=.d (.bool (Lx.ownB p))):=by
 have t1:=v8 gl p.aj;have t2:=y5 gl p.au;have t3:=x3 gl p.av;have t4:=λa b lo hi=>x9 gl p.ak a b lo hi hkk;have t6:=x7 gl p.name;have t7:=y8 gl p.spec;clear hkk;simp only[r8]at t3;refine ja5 gl p λw M r l0 g0 least most hr hl0 hg0 hlm=>?_;have hown:=je9 p r l0 g0 least most hr hl0 hg0 hlm;simp only[kq2,kq3,kq4,kq1,k,Int.reduceEq,or_self,or_true,true_or,or_false,false_or,if_true,if_false]at hown;refine z7 (ι:=Bool × Bool × Bool) (λx=>oS gl p .o [(4,.d (.bool x.1)),(8,.d (.bool x.2.1)),(9,.d (.bool x.2.2))]) (λx=>x=(true,l0,Dq p.ak least most 2 4)) ?_ ?_<;>dsimp only[oS,ozc,prC,exC,ju5,spC,ke0,Ac,Ae]
 ·(repeat' first|refine yyp ?_|refine yy ?_|apply Cf 111;refine Ci (hc:=(t4 _ _ _ _)) ?_|apply ah;refine Cc Tq ?_|refine Cb λK hK=>?_|apply_assumption -exfalso -symm)
  all_goals
   refine⟨(_,_,_),?_,v6⟩
   (repeat (rename (∀ S,TC _ _ _ S->_)=>hX;clear hX))
   clear t1 t2 t3 t4 t6 t7 hown;clear hr hlm hl0 hg0;simp only[Bh,Lx.hasB]at *
   all_goals (try simp_all)
   all_goals (try omega)
   all_goals (try (cases r<;>first|rfl|(simp;omega)|omega))
 rintro⟨fine,parts,choices⟩ hx;simp only[Bh]at hx;obtain⟨rfl,rfl,rfl⟩:=hx;exact ja6 gl p w M .o _ _ _ hown
theorem qc3 (p:Pr)(hkk:∀ g∈p.ak,0<=g.kind)(k:p.kind=13):FnD prog gl 67 [.d (dPr p)] (λv=>v=.d (.bool (Lx.ownB p))):=by
 have t1:=v8 gl p.aj;have t2:=y5 gl p.au;have t3:=x3 gl p.av;have t4:=λa b lo hi=>x9 gl p.ak a b lo hi hkk;have t6:=x7 gl p.name;have t7:=y8 gl p.spec;clear hkk;simp only[r8]at t3;refine ja5 gl p λw M r l0 g0 least most hr hl0 hg0 hlm=>?_;have hown:=je9 p r l0 g0 least most hr hl0 hg0 hlm;simp only[kq2,kq3,kq4,kq1,k,Int.reduceEq,or_self,or_true,true_or,or_false,false_or,if_true,if_false]at hown;refine z7 (ι:=Bool × Bool × Bool) (λx=>oS gl p .o [(4,.d (.bool x.1)),(8,.d (.bool x.2.1)),(9,.d (.bool x.2.2))]) (λx=>x=(true,l0,Dq p.ak least most 2 4)) ?_ ?_<;>dsimp only[oS,ozc,prC,exC,ju5,spC,ke0,Ac,Ae]
 ·(repeat' first|refine yyp ?_|refine yy ?_|apply Cf 111;refine Ci (hc:=(t4 _ _ _ _)) ?_|apply ah;refine Cc Tq ?_|refine Cb λK hK=>?_|apply_assumption -exfalso -symm)
  all_goals
   refine⟨(_,_,_),?_,v6⟩
   (repeat (rename (∀ S,TC _ _ _ S->_)=>hX;clear hX))
   clear t1 t2 t3 t4 t6 t7 hown;clear hr hlm hl0 hg0;simp only[Bh,Lx.hasB]at *
   all_goals (try simp_all)
   all_goals (try omega)
   all_goals (try (cases r<;>first|rfl|(simp;omega)|omega))
 rintro⟨fine,parts,choices⟩ hx;simp only[Bh]at hx;obtain⟨rfl,rfl,rfl⟩:=hx;exact ja6 gl p w M .o _ _ _ hown
end
end Go.Proofs.YtklklgfpkpglgaaGreatDoor
