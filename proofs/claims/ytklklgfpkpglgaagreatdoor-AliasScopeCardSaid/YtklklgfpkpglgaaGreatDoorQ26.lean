/- Parts. -/
import Derived.Test.YtklklgfpkpglgaaGreatDoorQ17
import Derived.Test.YtklklgfpkpglgaaGreatDoorQ24
set_option linter.all false
set_option maxRecDepth 100000
set_option maxHeartbeats 0
namespace Go.Proofs.YtklklgfpkpglgaaGreatDoor
open Go.RowKit Go.Proofs.Tryz Sc
variable (gl:List (Nat × List D))
section
open Go.RowKit Go.Sort
variable {mm:Int}
theorem mz4 (w:World)(n:Nat):Below w.heap.size w (w.drewN n):=⟨rfl,rfl,rfl,Ap _,λ_ _=>rfl⟩
theorem mz5 (w:World)(os:Array Obj):Below w.heap.size w (grow w os):=⟨rfl,rfl,rfl,by simp[grow],λb hb=>by
 unfold grow;simp[Array.getElem?_append_left hb]⟩
theorem kx2:∀ n:Nat,Lib.decDigits n=Sc.dec n:=λn=>by
 induction n using Nat.strongRecOn with
 |ind n ih=>
  rw[Lib.decDigits,Sc.dec];split
  ·rfl
  ·rw[ih (n / 10) (by omega)]
theorem mf8 {w:World}{M:Nat->Nat->Prop}{k:IntKind}:∀ {l:List Int} {vs:List Value},Dz w M (l.map λz=>D.int k z) vs->vs=l.map λz=>Value.int k z
 |[],_,h=>h
 |x::l,_,h=>by
  simp only[List.map_cons,Dz]at h;obtain⟨v,r,rfl,_,h3,h4⟩:=h;simp only[Gv]at h3;rw[h3,mf8 h4];rfl
theorem rv6 (n:Nat)(hn:n<1000000000000000000):FnD prog (glS mm) 79 [.d (.int .i64 n)] (λv=>v=.d (.str ⟨(Sc.dec n).toArray⟩)):=by
 intro w M us hM hus hg;simp only[Cs]at hus;obtain⟨v,r,rfl,hv,rfl⟩:=hus;have hv':v=.int .i64 n:=hv;subst hv';obtain⟨v1,t1,f1,q1,_,q2⟩:=hg 3 _ rfl;have q5:=mf8 q2;subst q5;refine(Tryz.strconv_Itoa n (by omega) (by omega) w ?_).mono ?_
 ·show World.var? _ _ _=_;unfold World.var?;rw[show prog.globalNamed "internal/strconv.uint64pow10"=some 3 from by kernel_rfl];simp only[Option.bind_some,q1];rfl
 ·rintro e w' ⟨rfl,k,os,rfl⟩;refine⟨_,_,rfl,.d _,rfl,?_,?_⟩
  ·have h1:=mz4 w k;have h2:=mz5 (w.drewN k) os;exact h1.trans h2
  ·show Value.string _=Value.string _;unfold Lib.itoa;rw[Af (by omega),Int.toNat_natCast,kx2]
end
section
variable {mm:Int}
def Sc.W.Yl (σ:W):Prop:=∀ x∈σ.tk,x.2≠0
def Sc.W.Xh (σ:W)(m:Nat):Prop:=0<=σ.count/\σ.count+m * (σ.tk.length+1)<1000000000000000000
theorem qk4 (tk:List (ByteArray × Int))(s:ByteArray):∀ y∈Sc.tkK tk,Comp .str (.str s) y:=λy hy=>by
 obtain⟨x,_,rfl⟩:=Br.1 hy;exact .str _ _
theorem vh6 (tk:List (ByteArray × Int)):(Sc.tkV tk).length=(Sc.tkK tk).length:=by simp[Sc.tkV,Sc.tkK]
section
variable {E:Set}{Q:Exit->Sd->Prop}{ops:Array Oper}{draw:Bool}{rest:Todo}{way:Ji}{ty:TypeId}{pos:String}{af:Array Edge}{gd:Option (Nat × Bool)}
variable {env:List (Nat × V)}{H:List (Nat × Ob)}{gl:List (Nat × List D)}{d:Nat}
theorem ki9 {t k e b:Nat}{x y:Operand}{tk:List (ByteArray × Int)}{s:ByteArray}[ht:TMap E.P t k e][hkk:TKey E.P k .str][hz:Jo E.P e (.d (.int .i64 0))](hx:Sd.ev ⟨env,H,gl⟩ x=some (.map b))(hox:Cm x=true)(hl:look b H=some (.map (Sc.tkK tk) (Sc.tkV tk)))(hy:Sd.ev ⟨env,H,gl⟩ y=some (.d (.str s)))(hoy:Cm y=true)
 (hd:d<E.C.nt) (hg:Sd.gd ⟨env,H,gl⟩ ops ⟨some d,.lookup t x y false,ty,pos,af,gd⟩=some true) (hw:way.known=false)
 (h1:∀ (i:Nat) z,tk[i]? =some z->z.1=s->(∀ j:Nat,j<i->∀ u,tk[j]? =some u->u.1≠s)->TR E draw ops Q rest ⟨(d,.d (.int .i64 z.2))::env,H,gl⟩)
 (h2:s∉tk.map (·.1)->TR E draw ops Q rest ⟨(d,.d (.int .i64 0))::env,H,gl⟩):TR E draw ops Q (.step ⟨some d,.lookup t x y false,ty,pos,af,gd⟩ way rest) ⟨env,H,gl⟩:=by
 refine mc3 (kk:=.str) hx hox hl hy hoy (.str _ _) hd hg hw (qk4 _ _) (vh6 _) (λi z q1 q2 q3=>?_) (λhm=>h2 λhs=>hm ?_)
 ·unfold Sc.tkK at q1 q3;unfold Sc.tkV at q2;rw[Bp]at q1 q2;cases h3:tk[i]? with
  |none=>rw[h3]at q1;cases q1
  |some u=>
   rw[h3]at q1 q2;simp only[Er,Bi,D.str.injEq]at q1 q2;subst q2;exact h1 i u h3 q1 λj hj v hv e=>q3 j hj (by rw[Bp,hv,<-e];rfl)
 ·obtain⟨u,hu,rfl⟩:=Br.1 hs;exact Br.2 ⟨u,hu,rfl⟩
end
theorem Ta:∀ n:Nat,(Sc.dec n).length<=n+1:=λn=>by
 induction n using Nat.strongRecOn with
 |ind n ih=>
  rw[Sc.dec];split
  ·simp
  ·have:=ih (n / 10) (by omega);simp only[Ag,Aj,Az];omega
theorem mn9 (n:Nat):(⟨#[110]⟩:ByteArray)++⟨(Sc.dec n).toArray⟩=aC n:=by
 have h:∀ s t:ByteArray,s.data.toList=t.data.toList->s=t:=λs t h=>by
  cases s with|mk a=>cases t with|mk b=>cases a with|mk a=>cases b with|mk b=>exact congrArg (λl=>ByteArray.mk (Array.mk l)) h
 apply h;simp[aC,ByteArray.data_append]
attribute [local irreducible] TR TC
theorem kx3 (k:Sc.Kind)(σ:W)(ht:σ.Yl)(hn:σ.Xh 1):FnE prog (glS mm) 52 [.ptr 900 0] (HW k σ)
 (λv H1=>v=.d (.str (Co σ).1)/\H1=HW k (Co σ).2):=by
 obtain⟨hn0,hn1⟩:=hn;have hfree:=Qn σ (σ.count.toNat+1);have hhas:=Oq σ (σ.tk.length+1) (σ.count.toNat+1);have hle:=Vj σ (σ.count.toNat+1);unfold Co;obtain⟨env,tk,c,ev⟩:=σ;dsimp only at *;obtain⟨n,rfl⟩:∃ n:Nat,c=n:=⟨c.toNat,by omega⟩;simp only[Int.toNat_natCast]at *;generalize Sc.skip ⟨env,tk,n,ev⟩ (tk.length+1) (n+1)=nk at *;have tg:k=k:=rfl;cases k
 all_goals dsimp only[HW,je0,jb3]
 all_goals
  (refine j3 func52 ntmps52 results52 λw M E b0=>?_)
  (repeat' first|refine yyp ?_;try refine Ce ?_ ?_<;>intro hb|refine yy ?_|apply ah;refine Cc [0,2,3,4,5,6,23] ?_|refine Cb λK hK=>?_|apply_assumption -exfalso -symm)
  refine k9 [2,3,4,5,6,7,8,9,10,11,12,13,14,15,16,17,18,19,20,21,22,23,24] [900] (λj:Nat=>[]) (λj=>[(900,.box [.map 901,.map 902,.d (.int .i64 (n+j:Nat)),je0 (kof tg)])]) (λj=>j<=nk) (λj=>nk - j) 0 (Ak _) λj hj=>?_;dsimp only[Ac,Ae,je0,kof];have hi:=rv6 (mm:=mm) (n+1+j) (by omega);rw[show((n+1+j:Nat):Int)=(n+j:Nat)+1 by omega]at hi;have hsz:(⟨(Sc.dec (n+1+j)).toArray⟩:ByteArray).size<=1000000000000000001:=by
   have:=Ta (n+1+j);show(Sc.dec (n+1+j)).toArray.size<=_;simp only[List.size_toArray];omega
  have hz:(⟨#[110]⟩:ByteArray).size=1:=rfl;have hap:=mn9 (n+1+j)
  (repeat' first|apply Ca 22;(refine ki9 rfl rfl rfl rfl rfl (ltd rfl) rfl rfl (λzi z hz1 hz2 hz3=>?_) (λhmiss=>?_))|refine yyp ?_;try refine Ce ?_ ?_<;>intro hb|refine yy ?_|refine yy2 ?_ ?_<;>intro hcmp|apply Cf 79;refine Ci (hc:=hi) ?_|apply ah;refine Cc [0,2,3,4,5,6,23] ?_|refine Cb λK hK=>?_|apply_assumption -exfalso -symm)
  ·exact absurd hcmp (ht z (Ea hz1))
  ·have hmem:aC (n+1+j)∈tk.map (·.1):=by
    rw[<-hap,<-hz2];exact Br.2 ⟨z,Ea hz1,rfl⟩
   rcases Ai j nk with hlt|hge
   ·refine⟨j+1,hlt,by omega,?_⟩;rw[show((n+(j+1):Nat):Int)=(n+j:Nat)+1 by omega];exact v6
   ·exfalso;obtain rfl:j=nk:=by omega
    exact hfree hmem
  ·rcases Ai j nk with hlt|hge
   ·exfalso;rw[hap]at hmiss;exact hmiss (hhas j hlt)
   ·obtain rfl:j=nk:=by omega
    rw[hap,show((n+1+j:Nat):Int)=(n+j:Nat)+1 by omega]
    (refine j1 (j8 ⟨?_,rfl⟩))
    rfl
end
section
def Wv:List Nat:=[0,1,3,4,5,6,7,14,26]
def Ww:List Nat:=[0,2,3,5,6,7,8,9]
def Pj:List Nat:=[0,1,3,4,5,6,7,17]
def qk5:Plan:=lin [0,4,8,13,16,20,24,28,36,33,41,44,48,53,58,60,64]
variable {mm:Int}
theorem mf9 (k:Sc.Kind)(σ:W)(s:ByteArray)(x:Sc.Ent)(h:(σ.env s).getLast?=some x):FnE prog gl 78 [.ptr 900 0,.d (.str s)] (HW k σ)
 (λv H1=>v=.tup [.d (Lj x),.d (.bool true)]/\H1=HW k σ):=by
 have hf:=mm4 gl k σ s;have he:(σ.env s).isEmpty=false:=by
  cases hl:σ.env s with
  |nil=>rw[hl]at h;cases h
  |cons=>rfl
 rw[h,he]at hf;exact hf
theorem mg0 (k:Sc.Kind)(σ:W)(s:ByteArray)(h:(σ.env s).getLast?=none):FnE prog gl 78 [.ptr 900 0,.d (.str s)] (HW k σ)
 (λv H1=>v=.tup [.d (Lj ⟨ByteArray.empty,false,[]⟩),.d (.bool false)]/\H1=HW k σ):=by
 have hf:=mm4 gl k σ s;rw[List.getLast?_eq_none_iff.1 h]at hf;exact hf
attribute [local irreducible] TR TC
theorem kr4 (k:Sc.Kind)(σ:W)(t:Ty):FnE prog gl 82 [.ptr 900 0,.d (dTy t)] (HW k σ)
 (λv H1=>v=.d (.list 1 ((Cx σ.env t).map .str))/\H1=HW k σ):=by
 unfold Cx;cases hx:(σ.env t.aN).getLast? with
 |none=>
  have hf:=mg0 gl k σ t.aN hx;simp only[ite_self];cases k
  all_goals dsimp only[HW,je0,jb3]at hf ⊢
  all_goals (refine j3 func82 ntmps82 results82 λw M E b0=>?_)
  all_goals (repeat' first|apply Ca 3;(refine Ck 3 ?_)|apply Ca 10;refine yyp ?_;try refine Ce ?_ ?_<;>intro hb|apply Ca 14;refine yyp ?_;try refine Ce ?_ ?_<;>intro hb|apply Ca 19;refine Ch (hc:=hf) ?_|apply Ca 5;(refine j2 5 ?_)|apply Ca 23;refine yyp ?_;try refine Ce ?_ ?_<;>intro hb|apply Ca 26;refine yyp ?_;try refine Ce ?_ ?_<;>intro hb|refine yyp ?_|refine yy ?_|refine yy2 ?_ ?_<;>intro hcmp|apply ah;refine Cc Wv ?_|refine Cb λK hK=>?_|apply_assumption -exfalso -symm)
  all_goals (refine j1 (j8 ⟨?_,rfl⟩))
  all_goals rfl
 |some x=>
  have hf:=mf9 gl k σ t.aN x hx;obtain⟨xf,xp,xt⟩:=x;dsimp only;by_cases hk:t.kind=4/\t.aN≠ByteArray.empty
  ·rw[Ad hk];cases xp
   all_goals simp only[if_true,if_false,Bb]
   all_goals cases k
   all_goals dsimp only[HW,je0,jb3,Lj]at hf ⊢
   all_goals (refine j3 func82 ntmps82 results82 λw M E b0=>?_)
   all_goals (repeat' first|apply Ca 3;(refine Ck 3 ?_)|apply Ca 10;refine yyp ?_;try refine Ce ?_ ?_<;>intro hb|apply Ca 14;refine yyp ?_;try refine Ce ?_ ?_<;>intro hb|apply Ca 19;refine Ch (hc:=hf) ?_|apply Ca 5;(refine j2 5 ?_)|apply Ca 23;refine yyp ?_;try refine Ce ?_ ?_<;>intro hb|apply Ca 26;refine yyp ?_;try refine Ce ?_ ?_<;>intro hb|refine yyp ?_|refine yy ?_|refine yy2 ?_ ?_<;>intro hcmp|apply ah;refine Cc Wv ?_|refine Cb λK hK=>?_|apply_assumption -exfalso -symm)
   all_goals first
    |(exfalso;exact absurd hk.1 (by assumption))
    |(exfalso;exact hk.2 (by assumption))
    |((refine j1 (j8 ⟨?_,rfl⟩))
      rfl)
  ·rw[Af hk];cases xp
   all_goals cases k
   all_goals dsimp only[HW,je0,jb3,Lj]at hf ⊢
   all_goals (refine j3 func82 ntmps82 results82 λw M E b0=>?_)
   all_goals (repeat' first|apply Ca 3;(refine Ck 3 ?_)|apply Ca 10;refine yyp ?_;try refine Ce ?_ ?_<;>intro hb|apply Ca 14;refine yyp ?_;try refine Ce ?_ ?_<;>intro hb|apply Ca 19;refine Ch (hc:=hf) ?_|apply Ca 5;(refine j2 5 ?_)|apply Ca 23;refine yyp ?_;try refine Ce ?_ ?_<;>intro hb|apply Ca 26;refine yyp ?_;try refine Ce ?_ ?_<;>intro hb|refine yyp ?_|refine yy ?_|refine yy2 ?_ ?_<;>intro hcmp|apply ah;refine Cc Wv ?_|refine Cb λK hK=>?_|apply_assumption -exfalso -symm)
   all_goals first
    |(exfalso;exact hk ⟨by assumption,by assumption⟩)
    |((refine j1 (j8 ⟨?_,rfl⟩))
      rfl)
theorem mt5 (k:Sc.Kind)(σ:W)(t:Ty)(hr:σ.room 1):FnE prog gl 85 [.ptr 900 0,.d (dTy t)] (HW k σ)
 (λv H1=>v=.d (dTy (Gr σ t).1)/\H1=HW k (Gr σ t).2):=by
 have hn:=ki5 gl k σ t.aN hr;unfold Gr;by_cases h0:t.aN=ByteArray.empty
 ·rw[Ad h0];clear hn;cases k
  all_goals dsimp only[HW,je0,jb3]
  all_goals (refine j3 func85 ntmps85 results85 λw M E b0=>?_)
  all_goals (repeat' first|apply Ca 3;(refine Ck 3 ?_)|apply Ca 4;(refine j2 4 ?_)|refine yyp ?_;try refine Ce ?_ ?_<;>intro hb|refine yy ?_|refine yy2 ?_ ?_<;>intro hcmp|apply ah;refine Cc [0,1,3,4,5,6,7,36] ?_|refine Cb λK hK=>?_|apply_assumption -exfalso -symm)
  all_goals first
   |(exfalso;exact absurd h0 (by assumption))
   |((refine j1 (j8 ⟨?_,rfl⟩))
     rfl)
 ·rw[Af h0];dsimp only;generalize aA σ t.aN=r at hn ⊢;cases k
  all_goals dsimp only[HW,je0,jb3]at hn ⊢
  all_goals (refine j3 func85 ntmps85 results85 λw M E b0=>?_)
  all_goals (repeat' first|apply Ca 3;(refine Ck 3 ?_)|apply Ca 4;(refine j2 4 ?_)|apply Ca 11;refine Ch (hc:=hn) ?_|refine yyp ?_;try refine Ce ?_ ?_<;>intro hb|refine yy ?_|refine yy2 ?_ ?_<;>intro hcmp|apply ah;refine Cc [0,1,3,4,5,6,7,36] ?_|refine Cb λK hK=>?_|apply_assumption -exfalso -symm)
  all_goals first
   |(exfalso;exact h0 (by assumption))
   |((refine j1 (j8 ⟨?_,rfl⟩))
     rfl)
theorem qk6 (l:List Sc.Ent)(hl:l.length<=1000000000):FnD prog gl 84 [.d (.list 3 (l.map Lj))] (λv=>v=.d (.list 1 ((l.map (·.aD)).map .str))):=by
 (refine j4 func84 ntmps84 results84 λw M=>?_)
 (repeat' first|refine yyp ?_;try refine Ce ?_ ?_<;>intro hb|refine yy ?_|apply ah;refine Cc Ww ?_|refine Cb λK hK=>?_|apply_assumption -exfalso -symm)
 refine rr5 (t:=3) (e:=9) (sz:=1) rfl rfl ?_;refine k9 [3,5,8,9,10,11,12,13,14,15,16,17] [3] (λx:Nat × Nat=>[(8,.d (.int .i64 x.1)),(3,.own 3 x.2)]) (λx=>[(3,.row 9 1 true (((l.take x.1).map (·.aD)).map .str) x.2)]) (λx=>x.1<=l.length) (λx=>l.length - x.1) (0,0) (Ak _) λ⟨j,kv⟩ hj=>?_;dsimp only[Ac,Ae]at hj ⊢;have hlen:((l.take j).map (·.aD)).length=j:=by simp;omega
 rcases Ai j l.length with hj2|hj2
 ·(repeat' first|apply Ca 5;(refine j2 5 ?_)|apply Ca 15;(refine Fu 15 ?_)|refine yyp ?_;try refine Ce ?_ ?_<;>intro hb|refine yy ?_|(apply Dw;first|(refine Gj (λkv=>?_))|(refine ai (λsx sp kv hsx hsp hsl=>?_)))|apply ah;refine Cc Ww ?_|refine Cb λK hK=>?_|apply_assumption -exfalso -symm)
  refine⟨(j+1,kv),by dsimp only;omega,by dsimp only;omega,?_⟩;dsimp only;rw[An hj2];simp only[Av,List.map_cons,Bj];exact v6
 ·(repeat' first|refine yyp ?_;try refine Ce ?_ ?_<;>intro hb|refine yy ?_|apply ah;refine Cc Ww ?_|refine Cb λK hK=>?_|apply_assumption -exfalso -symm)
  have:l.take j=l:=Ba hj2;rw[this]
  (refine j1 (j7 ?_))
  rfl
def dPx (p:Pr):D:=.agg [.int .u8 p.kind,.str p.name,
    .int .u8 p.av.kind,.int .u8 p.av.op,.int .u8 p.av.ty,.int .i32 p.av.n,.str p.av.s,.list 6 (p.av.l.map dEx),
    .list 6 (p.aj.map dEx),.list 6 (p.au.map dE),
    .str p.rep.name,.int .u8 p.rep.base.kind,.int .u8 p.rep.base.op,.int .u8 p.rep.base.ty,.int .i32 p.rep.base.n,.str p.rep.base.s,.list 6 (p.rep.base.l.map dEx),
    .int .u8 p.rep.count.kind,.int .u8 p.rep.count.op,.int .u8 p.rep.count.ty,.int .i32 p.rep.count.n,.str p.rep.count.s,.list 6 (p.rep.count.l.map dEx),
    .list 23 (p.ak.map dGu),.list 42 (p.l.map dPr),.list 1 (p.ay.map (.int .i64)),
    .int .u8 p.spec.kind,.int .u8 p.spec.type.kind,.int .i64 p.spec.type.dim,.int .u8 p.spec.type.item,.str p.spec.type.aN,.list 1 (p.spec.names.map .str),
    .int .u8 p.spec.e.kind,.int .u8 p.spec.e.op,.int .u8 p.spec.e.ty,.int .i32 p.spec.e.n,.str p.spec.e.s,.list 6 (p.spec.e.l.map dEx),
    .bool p.spec.aN.cases,.list 2 (p.spec.aN.l.map dVa),.list 6 (p.spec.ax.map dFo),.list 42 (p.spec.body.map dPr)]
theorem qk7:dPr=dPx:=by
 rw[v7];funext p;unfold dP dPx;rw[r8]
theorem mz6 (env:ByteArray->List Sc.Ent)(kind:Int)(av:Ex)(e:Ex)(l:List Ex)(hx:(env av.s).getLast?=none):Dh env kind av (e::l)=false:=by
 unfold Dh;split
 ·dsimp only;rw[hx,Be]
 ·rfl
theorem mo0 (env:ByteArray->List Sc.Ent)(kind:Int)(av:Ex)(e:Ex)(l:List Ex)(x:Sc.Ent)(hx:(env av.s).getLast?=some x):Dh env kind av (e::l)=(decide (kind=5) && (decide (e.kind=4) && (!x.aN && x.tags.any (Sc.isB e.s)))):=by
 unfold Dh;split
 ·rename_i h;dsimp only;rw[hx,Bm h,Bf]
 ·rename_i h;rw[Bl h,As]
theorem kj0 (k:Sc.Kind)(σ:W)(p:Pr)(hp:p.kind=5->0<p.au.length):FnE prog gl 47 [.ptr 900 0,.d (dPr p)] (HW k σ)
 (λv H1=>v=.d (.bool (Dh σ.env p.kind p.av p.au))/\H1=HW k σ):=by
 rw[qk7];by_cases h5:p.kind=5
 ·have hpos:=hp h5;obtain⟨e,l,hel⟩:∃ e l,p.au=e::l:=by
   cases h:p.au with
   |nil=>rw[h]at hpos;simp at hpos
   |cons e l=>exact⟨e,l,rfl⟩
  have h0:p.au[0]=e:=by simp only[hel,List.getElem_cons_zero]
  cases hx:(σ.env p.av.s).getLast? with
  |none=>
   have hf:=mg0 gl k σ p.av.s hx;rw[hel,mz6 _ _ _ _ _ hx];cases k
   all_goals dsimp only[HW,je0,jb3]at hf ⊢
   all_goals (refine j3 func47 ntmps47 results47 λw M E b0=>?_)
   all_goals (repeat' first|apply Ca 3;(refine Ck 3 ?_)|refine zas [10,27] ?_;(first|refine yyp ?_;try refine Ce ?_ ?_<;>intro hb|refine yy2 ?_ ?_<;>intro hcmp);all_goals try (first|refine Dj true 10 17 Pj ?_|refine Dj false 27 4 Pj ?_)|apply Ca 17;refine yyp ?_;try refine Ce ?_ ?_<;>intro hb|apply Ca 23;refine Ch (hc:=hf) ?_|apply Ca 5;(refine j2 5 ?_)|refine yyp ?_|refine yy ?_|refine yy2 ?_ ?_<;>intro hcmp|apply ah;refine Cc Pj ?_|refine Cb λK hK=>?_|apply Cg 4;refine j0 [] qk5 ?_|apply_assumption -exfalso -symm)
   all_goals (refine j1 (j8 ⟨?_,rfl⟩))
   all_goals rfl
  |some x=>
   have hf:=mf9 gl k σ p.av.s x hx;have hc:=ji4 gl x.tags p.au[0].s;rw[hel,mo0 _ _ _ _ _ _ hx,<-h0];generalize x.tags.any (Sc.isB p.au[0].s)=b at hc ⊢;obtain⟨xf,xp,xt⟩:=x;dsimp only at hc ⊢;cases k
   all_goals dsimp only[HW,je0,jb3,Lj]at hf ⊢
   all_goals (refine j3 func47 ntmps47 results47 λw M E b0=>?_)
   all_goals (repeat' first|apply Ca 3;(refine Ck 3 ?_)|refine zas [10,27,32] ?_;(first|refine yyp ?_;try refine Ce ?_ ?_<;>intro hb|refine yy2 ?_ ?_<;>intro hcmp);all_goals try (first|refine Dj true 10 17 Pj ?_|refine Dj false 27 4 Pj ?_|refine Dj false 32 4 Pj ?_)|apply Ca 17;refine yyp ?_;try refine Ce ?_ ?_<;>intro hb|apply Ca 23;refine Ch (hc:=hf) ?_|apply Ca 5;(refine j2 5 ?_)|refine yyp ?_|refine yy ?_|refine yy2 ?_ ?_<;>intro hcmp|apply Cf 62;refine Ci (hc:=hc) ?_|apply ah;refine Cc Pj ?_|refine Cb λK hK=>?_|apply Cg 4;refine j0 [] qk5 ?_|apply_assumption -exfalso -symm)
   all_goals (refine j1 (j8 ⟨?_,rfl⟩))
   all_goals (clear hc hf;(repeat (rename (∀ S,TC _ _ _ S->_)=>hX;clear hX));simp_all;try rfl)
 ·have hfalse:Dh σ.env p.kind p.av p.au=false:=by unfold Dh;rw[Af h5]
  rw[hfalse];cases k
  all_goals dsimp only[HW,je0,jb3]
  all_goals (refine j3 func47 ntmps47 results47 λw M E b0=>?_)
  all_goals (repeat' first|apply Ca 3;(refine Ck 3 ?_)|apply Ca 10;(first|refine yyp ?_;try refine Ce ?_ ?_<;>intro hb|refine yy2 ?_ ?_<;>intro hcmp);all_goals try refine Dj true 10 17 Pj ?_|refine yyp ?_|refine yy ?_|apply ah;refine Cc Pj ?_|refine Cb λK hK=>?_|apply Cg 4;refine j0 [] qk5 ?_|apply_assumption -exfalso -symm)
  all_goals (refine j1 (j8 ⟨?_,rfl⟩))
  all_goals rfl
end
end Go.Proofs.YtklklgfpkpglgaaGreatDoor
