/- Parts. -/
import Derived.Test.YtklklgfpkpglgaaGreatDoorW16
import Derived.Test.YtklklgfpkpglgaaGreatDoorW23
set_option linter.all false
set_option maxRecDepth 100000
set_option maxHeartbeats 0
namespace Go.Proofs.YtklklgfpkpglgaaGreatDoor
open Go.RowKit Go.Proofs.Tryz Sc
variable (gl:List (Nat × List D))
section
open Go.RowKit Go.Sort
variable {mm:Int}
theorem mv3 (w:World)(n:Nat):Below w.heap.size w (w.drewN n):=⟨rfl,rfl,rfl,Au _,λ_ _=>rfl⟩
theorem mv4 (w:World)(os:Array Obj):Below w.heap.size w (grow w os):=⟨rfl,rfl,rfl,by simp[grow],λb hb=>by
 unfold grow;simp[Array.getElem?_append_left hb]⟩
theorem kv1:∀ n:Nat,Lib.decDigits n=Sc.dec n:=λn=>by
 induction n using Nat.strongRecOn with
 |ind n ih=>
  rw[Lib.decDigits,Sc.dec];split
  ·rfl
  ·rw[ih (n / 10) (by omega)]
theorem md4 {w:World}{M:Nat->Nat->Prop}{k:IntKind}:∀ {l:List Int} {vs:List Value},Fu w M (l.map λz=>D.int k z) vs->vs=l.map λz=>Value.int k z
 |[],_,h=>h
 |x::l,_,h=>by
  simp only[Ap,Fu]at h;obtain⟨v,r,rfl,_,h3,h4⟩:=h;simp only[Gm]at h3;rw[h3,md4 h4];rfl
theorem mk7 (n:Nat)(hn:n<1000000000000000000):FnD prog (glS mm) 79 [.d (.int .i64 n)] (λv=>v=.d (.str ⟨(Sc.dec n).toArray⟩)):=by
 intro w M us hM hus hg;simp only[Ct]at hus;obtain⟨v,r,rfl,hv,rfl⟩:=hus;have hv':v=.int .i64 n:=hv;subst hv';obtain⟨v1,t1,f1,q1,_,q2⟩:=hg 3 _ rfl;have q5:=md4 q2;subst q5;refine(Tryz.strconv_Itoa n (by omega) (by omega) w ?_).mono ?_
 ·show World.var? _ _ _=_;unfold World.var?;rw[show prog.globalNamed "internal/strconv.uint64pow10"=some 3 from by kernel_rfl];simp only[Option.bind_some,q1];rfl
 ·rintro e w' ⟨rfl,k,os,rfl⟩;refine⟨_,_,rfl,.d _,rfl,?_,?_⟩
  ·have h1:=mv3 w k;have h2:=mv4 (w.drewN k) os;exact h1.trans h2
  ·show Value.string _=Value.string _;unfold Lib.itoa;rw[Af (by omega),Int.toNat_natCast,kv1]
end
section
def Sw:List Nat:=[0,2,3,4,5,6,23]
def qf6:List Nat:=[2,3,4,5,6,7,8,9,10,11,12,13,14,15,16,17,18,19,20,21,22,23,24]
variable {mm:Int}
def Sc.W.Yf (σ:W):Prop:=∀ x∈σ.tk,x.2≠0
def Sc.W.Xe (σ:W)(m:Nat):Prop:=0<=σ.count/\σ.count+m * (σ.tk.length+1)<1000000000000000000
theorem qf7 (tk:List (ByteArray × Int))(s:ByteArray):∀ y∈Sc.tkK tk,Comp .str (.str s) y:=λy hy=>by
 obtain⟨x,_,rfl⟩:=Bx.1 hy;exact .str _ _
theorem rx9 (tk:List (ByteArray × Int)):(Sc.tkV tk).length=(Sc.tkK tk).length:=by simp[Sc.tkV,Sc.tkK]
section
variable {E:Set}{Q:Exit->Sd->Prop}{ops:Array Oper}{draw:Bool}{rest:Todo}{way:Jj}{ty:TypeId}{pos:String}{af:Array Edge}{gd:Option (Nat × Bool)}
variable {env:List (Nat × V)}{H:List (Nat × Ob)}{gl:List (Nat × List D)}{d:Nat}
theorem jo1 {t k e b:Nat}{x y:Operand}{tk:List (ByteArray × Int)}{s:ByteArray}[ht:TMap E.P t k e][hkk:TKey E.P k .str][hz:Jq E.P e (.d (.int .i64 0))](hx:Sd.ev ⟨env,H,gl⟩ x=some (.map b))(hox:Cn x=true)(hl:look b H=some (.map (Sc.tkK tk) (Sc.tkV tk)))(hy:Sd.ev ⟨env,H,gl⟩ y=some (.d (.str s)))(hoy:Cn y=true)
 (hd:d<E.C.nt) (hg:Sd.gd ⟨env,H,gl⟩ ops ⟨some d,.lookup t x y false,ty,pos,af,gd⟩=some true) (hw:way.known=false)
 (h1:∀ (i:Nat) z,tk[i]? =some z->z.1=s->(∀ j:Nat,j<i->∀ u,tk[j]? =some u->u.1≠s)->TR E draw ops Q rest ⟨(d,.d (.int .i64 z.2))::env,H,gl⟩)
 (h2:s∉tk.map (·.1)->TR E draw ops Q rest ⟨(d,.d (.int .i64 0))::env,H,gl⟩):TR E draw ops Q (.step ⟨some d,.lookup t x y false,ty,pos,af,gd⟩ way rest) ⟨env,H,gl⟩:=by
 refine ma0 (kk:=.str) hx hox hl hy hoy (.str _ _) hd hg hw (qf7 _ _) (rx9 _) (λi z q1 q2 q3=>?_) (λhm=>h2 λhs=>hm ?_)
 ·unfold Sc.tkK at q1 q3;unfold Sc.tkV at q2;rw[Bs]at q1 q2;cases h3:tk[i]? with
  |none=>rw[h3]at q1;cases q1
  |some u=>
   rw[h3]at q1 q2;simp only[Fa,Bl,D.str.injEq]at q1 q2;subst q2;exact h1 i u h3 q1 λj hj v hv e=>q3 j hj (by rw[Bs,hv,<-e];rfl)
 ·obtain⟨u,hu,rfl⟩:=Bx.1 hs;exact Bx.2 ⟨u,hu,rfl⟩
end
theorem Qy:∀ n:Nat,(Sc.dec n).length<=n+1:=λn=>by
 induction n using Nat.strongRecOn with
 |ind n ih=>
  rw[Sc.dec];split
  ·simp
  ·have:=ih (n / 10) (by omega);simp only[Ag,An,Av];omega
theorem ju9 (n:Nat):(⟨#[110]⟩:ByteArray)++⟨(Sc.dec n).toArray⟩=aC n:=by
 have h:∀ s t:ByteArray,s.data.toList=t.data.toList->s=t:=λs t h=>by
  cases s with|mk a=>cases t with|mk b=>cases a with|mk a=>cases b with|mk b=>exact congrArg (λl=>ByteArray.mk (Array.mk l)) h
 apply h;simp[aC,ByteArray.data_append]
attribute [local irreducible] TR TC
theorem jk9 (k:Sc.Kind)(σ:W)(ht:σ.Yf)(hn:σ.Xe 1):FnE prog (glS mm) 52 [.ptr 900 0] (HW k σ)
 (λv H1=>v=.d (.str (Cx σ).1)/\H1=HW k (Cx σ).2):=by
 obtain⟨hn0,hn1⟩:=hn;have hfree:=Rb σ (σ.count.toNat+1);have hhas:=Qw σ (σ.tk.length+1) (σ.count.toNat+1);have hle:=Vj σ (σ.count.toNat+1);unfold Cx;obtain⟨env,tk,c,ev⟩:=σ;dsimp only at *;obtain⟨n,rfl⟩:∃ n:Nat,c=n:=⟨c.toNat,by omega⟩;simp only[Int.toNat_natCast]at *;generalize Sc.skip ⟨env,tk,n,ev⟩ (tk.length+1) (n+1)=nk at *;cases k
 all_goals dsimp only[HW,ja9,n7]
 case free=>
  (refine j2 func52 ntmps52 results52 λw M E b0=>?_)
  (repeat' first|refine yyp ?_;try refine Ce ?_ ?_<;>intro hb|refine yy ?_|apply ah;refine Cc Sw ?_|refine Cb λK hK=>?_|apply_assumption -exfalso -symm)
  refine j9 qf6 [900] (λj:Nat=>[]) (λj=>[(900,.box [.map 901,.map 902,.d (.int .i64 (n+j:Nat)),ja9 .free])]) (λj=>j<=nk) (λj=>nk - j) 0 (Ai _) λj hj=>?_;dsimp only[Ac,Ad,ja9];have hi:=mk7 (mm:=mm) (n+1+j) (by omega);rw[show((n+1+j:Nat):Int)=(n+j:Nat)+1 by omega]at hi;have hsz:(⟨(Sc.dec (n+1+j)).toArray⟩:ByteArray).size<=1000000000000000001:=by
   have:=Qy (n+1+j);show(Sc.dec (n+1+j)).toArray.size<=_;simp only[List.size_toArray];omega
  have hz:(⟨#[110]⟩:ByteArray).size=1:=rfl;have hap:=ju9 (n+1+j)
  (repeat' first|apply Ca 22;(refine jo1 rfl rfl rfl rfl rfl (ltd rfl) rfl rfl (λzi z hz1 hz2 hz3=>?_) (λhmiss=>?_))|refine yyp ?_;try refine Ce ?_ ?_<;>intro hb|refine yy ?_|refine yy2 ?_ ?_<;>intro hcmp|apply Cg 79;refine Ci (hc:=hi) ?_|apply ah;refine Cc Sw ?_|refine Cb λK hK=>?_|apply_assumption -exfalso -symm)
  ·exact absurd hcmp (ht z (Bz hz1))
  ·have hmem:aC (n+1+j)∈tk.map (·.1):=by
    rw[<-hap,<-hz2];exact Bx.2 ⟨z,Bz hz1,rfl⟩
   rcases Ah j nk with hlt|hge
   ·refine⟨j+1,hlt,by omega,?_⟩;rw[show((n+(j+1):Nat):Int)=(n+j:Nat)+1 by omega];exact r9
   ·exfalso;obtain rfl:j=nk:=by omega
    exact hfree hmem
  ·rcases Ah j nk with hlt|hge
   ·exfalso;rw[hap]at hmiss;exact hmiss (hhas j hlt)
   ·obtain rfl:j=nk:=by omega
    rw[hap,show((n+1+j:Nat):Int)=(n+j:Nat)+1 by omega]
    (refine j1 (j6 ⟨?_,rfl⟩))
    rfl
 case check ns=>
  (refine j2 func52 ntmps52 results52 λw M E b0=>?_)
  (repeat' first|refine yyp ?_;try refine Ce ?_ ?_<;>intro hb|refine yy ?_|apply ah;refine Cc Sw ?_|refine Cb λK hK=>?_|apply_assumption -exfalso -symm)
  refine j9 qf6 [900] (λj:Nat=>[]) (λj=>[(900,.box [.map 901,.map 902,.d (.int .i64 (n+j:Nat)),ja9 (.check ns)])]) (λj=>j<=nk) (λj=>nk - j) 0 (Ai _) λj hj=>?_;dsimp only[Ac,Ad,ja9];have hi:=mk7 (mm:=mm) (n+1+j) (by omega);rw[show((n+1+j:Nat):Int)=(n+j:Nat)+1 by omega]at hi;have hsz:(⟨(Sc.dec (n+1+j)).toArray⟩:ByteArray).size<=1000000000000000001:=by
   have:=Qy (n+1+j);show(Sc.dec (n+1+j)).toArray.size<=_;simp only[List.size_toArray];omega
  have hz:(⟨#[110]⟩:ByteArray).size=1:=rfl;have hap:=ju9 (n+1+j)
  (repeat' first|apply Ca 22;(refine jo1 rfl rfl rfl rfl rfl (ltd rfl) rfl rfl (λzi z hz1 hz2 hz3=>?_) (λhmiss=>?_))|refine yyp ?_;try refine Ce ?_ ?_<;>intro hb|refine yy ?_|refine yy2 ?_ ?_<;>intro hcmp|apply Cg 79;refine Ci (hc:=hi) ?_|apply ah;refine Cc Sw ?_|refine Cb λK hK=>?_|apply_assumption -exfalso -symm)
  ·exact absurd hcmp (ht z (Bz hz1))
  ·have hmem:aC (n+1+j)∈tk.map (·.1):=by
    rw[<-hap,<-hz2];exact Bx.2 ⟨z,Bz hz1,rfl⟩
   rcases Ah j nk with hlt|hge
   ·refine⟨j+1,hlt,by omega,?_⟩;rw[show((n+(j+1):Nat):Int)=(n+j:Nat)+1 by omega];exact r9
   ·exfalso;obtain rfl:j=nk:=by omega
    exact hfree hmem
  ·rcases Ah j nk with hlt|hge
   ·exfalso;rw[hap]at hmiss;exact hmiss (hhas j hlt)
   ·obtain rfl:j=nk:=by omega
    rw[hap,show((n+1+j:Nat):Int)=(n+j:Nat)+1 by omega]
    (refine j1 (j6 ⟨?_,rfl⟩))
    rfl
 case none=>
  (refine j2 func52 ntmps52 results52 λw M E b0=>?_)
  (repeat' first|refine yyp ?_;try refine Ce ?_ ?_<;>intro hb|refine yy ?_|apply ah;refine Cc Sw ?_|refine Cb λK hK=>?_|apply_assumption -exfalso -symm)
  refine j9 qf6 [900] (λj:Nat=>[]) (λj=>[(900,.box [.map 901,.map 902,.d (.int .i64 (n+j:Nat)),ja9 .none])]) (λj=>j<=nk) (λj=>nk - j) 0 (Ai _) λj hj=>?_;dsimp only[Ac,Ad,ja9];have hi:=mk7 (mm:=mm) (n+1+j) (by omega);rw[show((n+1+j:Nat):Int)=(n+j:Nat)+1 by omega]at hi;have hsz:(⟨(Sc.dec (n+1+j)).toArray⟩:ByteArray).size<=1000000000000000001:=by
   have:=Qy (n+1+j);show(Sc.dec (n+1+j)).toArray.size<=_;simp only[List.size_toArray];omega
  have hz:(⟨#[110]⟩:ByteArray).size=1:=rfl;have hap:=ju9 (n+1+j)
  (repeat' first|apply Ca 22;(refine jo1 rfl rfl rfl rfl rfl (ltd rfl) rfl rfl (λzi z hz1 hz2 hz3=>?_) (λhmiss=>?_))|refine yyp ?_;try refine Ce ?_ ?_<;>intro hb|refine yy ?_|refine yy2 ?_ ?_<;>intro hcmp|apply Cg 79;refine Ci (hc:=hi) ?_|apply ah;refine Cc Sw ?_|refine Cb λK hK=>?_|apply_assumption -exfalso -symm)
  ·exact absurd hcmp (ht z (Bz hz1))
  ·have hmem:aC (n+1+j)∈tk.map (·.1):=by
    rw[<-hap,<-hz2];exact Bx.2 ⟨z,Bz hz1,rfl⟩
   rcases Ah j nk with hlt|hge
   ·refine⟨j+1,hlt,by omega,?_⟩;rw[show((n+(j+1):Nat):Int)=(n+j:Nat)+1 by omega];exact r9
   ·exfalso;obtain rfl:j=nk:=by omega
    exact hfree hmem
  ·rcases Ah j nk with hlt|hge
   ·exfalso;rw[hap]at hmiss;exact hmiss (hhas j hlt)
   ·obtain rfl:j=nk:=by omega
    rw[hap,show((n+1+j:Nat):Int)=(n+j:Nat)+1 by omega]
    (refine j1 (j6 ⟨?_,rfl⟩))
    rfl
end
section
def Wu:List Nat:=[0,1,3,4,5,6,7,14,26]
def Wv:List Nat:=[0,2,3,5,6,7,8,9]
def Pw:List Nat:=[0,1,3,4,5,6,7,17]
def qf8:Plan:=lin [0,4,8,13,16,20,24,28,36,33,41,44,48,53,58,60,64]
variable {mm:Int}
theorem md5 (k:Sc.Kind)(σ:W)(s:ByteArray)(x:Sc.Ent)(h:(σ.env s).getLast?=some x):FnE prog gl 78 [.ptr 900 0,.d (.str s)] (HW k σ)
 (λv H1=>v=.tup [.d (Fv x),.d (.bool true)]/\H1=HW k σ):=by
 have hf:=mj2 gl k σ s;have he:(σ.env s).isEmpty=false:=by
  cases hl:σ.env s with
  |nil=>rw[hl]at h;cases h
  |cons=>rfl
 rw[h,he]at hf;exact hf
theorem md6 (k:Sc.Kind)(σ:W)(s:ByteArray)(h:(σ.env s).getLast?=none):FnE prog gl 78 [.ptr 900 0,.d (.str s)] (HW k σ)
 (λv H1=>v=.tup [.d (Fv ⟨ByteArray.empty,false,[]⟩),.d (.bool false)]/\H1=HW k σ):=by
 have hf:=mj2 gl k σ s;rw[List.getLast?_eq_none_iff.1 h]at hf;exact hf
attribute [local irreducible] TR TC
theorem kq4 (k:Sc.Kind)(σ:W)(t:Ty):FnE prog gl 82 [.ptr 900 0,.d (dTy t)] (HW k σ)
 (λv H1=>v=.d (.list 1 ((Dg σ.env t).map .str))/\H1=HW k σ):=by
 unfold Dg;cases hx:(σ.env t.aN).getLast? with
 |none=>
  have hf:=md6 gl k σ t.aN hx;simp only[ite_self];cases k
  all_goals dsimp only[HW,ja9,n7]at hf ⊢
  all_goals (refine j2 func82 ntmps82 results82 λw M E b0=>?_)
  all_goals (repeat' first|apply Ca 3;(refine Cm 3 ?_)|apply Ca 10;refine yyp ?_;try refine Ce ?_ ?_<;>intro hb|apply Ca 14;refine yyp ?_;try refine Ce ?_ ?_<;>intro hb|apply Ca 19;refine Ch (hc:=hf) ?_|apply Ca 5;(refine j3 5 ?_)|apply Ca 23;refine yyp ?_;try refine Ce ?_ ?_<;>intro hb|apply Ca 26;refine yyp ?_;try refine Ce ?_ ?_<;>intro hb|refine yyp ?_|refine yy ?_|refine yy2 ?_ ?_<;>intro hcmp|apply ah;refine Cc Wu ?_|refine Cb λK hK=>?_|apply_assumption -exfalso -symm)
  all_goals (refine j1 (j6 ⟨?_,rfl⟩))
  all_goals rfl
 |some x=>
  have hf:=md5 gl k σ t.aN x hx;obtain⟨xf,xp,xt⟩:=x;dsimp only;by_cases hk:t.kind=4/\t.aN≠ByteArray.empty
  ·rw[Ae hk];cases xp
   all_goals simp only[if_true,if_false,Az]
   all_goals cases k
   all_goals dsimp only[HW,ja9,n7,Fv]at hf ⊢
   all_goals (refine j2 func82 ntmps82 results82 λw M E b0=>?_)
   all_goals (repeat' first|apply Ca 3;(refine Cm 3 ?_)|apply Ca 10;refine yyp ?_;try refine Ce ?_ ?_<;>intro hb|apply Ca 14;refine yyp ?_;try refine Ce ?_ ?_<;>intro hb|apply Ca 19;refine Ch (hc:=hf) ?_|apply Ca 5;(refine j3 5 ?_)|apply Ca 23;refine yyp ?_;try refine Ce ?_ ?_<;>intro hb|apply Ca 26;refine yyp ?_;try refine Ce ?_ ?_<;>intro hb|refine yyp ?_|refine yy ?_|refine yy2 ?_ ?_<;>intro hcmp|apply ah;refine Cc Wu ?_|refine Cb λK hK=>?_|apply_assumption -exfalso -symm)
   all_goals first
    |(exfalso;exact absurd hk.1 (by assumption))
    |(exfalso;exact hk.2 (by assumption))
    |((refine j1 (j6 ⟨?_,rfl⟩))
      rfl)
  ·rw[Af hk];cases xp
   all_goals cases k
   all_goals dsimp only[HW,ja9,n7,Fv]at hf ⊢
   all_goals (refine j2 func82 ntmps82 results82 λw M E b0=>?_)
   all_goals (repeat' first|apply Ca 3;(refine Cm 3 ?_)|apply Ca 10;refine yyp ?_;try refine Ce ?_ ?_<;>intro hb|apply Ca 14;refine yyp ?_;try refine Ce ?_ ?_<;>intro hb|apply Ca 19;refine Ch (hc:=hf) ?_|apply Ca 5;(refine j3 5 ?_)|apply Ca 23;refine yyp ?_;try refine Ce ?_ ?_<;>intro hb|apply Ca 26;refine yyp ?_;try refine Ce ?_ ?_<;>intro hb|refine yyp ?_|refine yy ?_|refine yy2 ?_ ?_<;>intro hcmp|apply ah;refine Cc Wu ?_|refine Cb λK hK=>?_|apply_assumption -exfalso -symm)
   all_goals first
    |(exfalso;exact hk ⟨by assumption,by assumption⟩)
    |((refine j1 (j6 ⟨?_,rfl⟩))
      rfl)
theorem mq4 (k:Sc.Kind)(σ:W)(t:Ty)(hr:σ.room 1):FnE prog gl 85 [.ptr 900 0,.d (dTy t)] (HW k σ)
 (λv H1=>v=.d (dTy (Ie σ t).1)/\H1=HW k (Ie σ t).2):=by
 have hn:=jm3 gl k σ t.aN hr;unfold Ie;by_cases h0:t.aN=ByteArray.empty
 ·rw[Ae h0];clear hn;cases k
  all_goals dsimp only[HW,ja9,n7]
  all_goals (refine j2 func85 ntmps85 results85 λw M E b0=>?_)
  all_goals (repeat' first|apply Ca 3;(refine Cm 3 ?_)|apply Ca 4;(refine j3 4 ?_)|refine yyp ?_;try refine Ce ?_ ?_<;>intro hb|refine yy ?_|refine yy2 ?_ ?_<;>intro hcmp|apply ah;refine Cc [0,1,3,4,5,6,7,36] ?_|refine Cb λK hK=>?_|apply_assumption -exfalso -symm)
  all_goals first
   |(exfalso;exact absurd h0 (by assumption))
   |((refine j1 (j6 ⟨?_,rfl⟩))
     rfl)
 ·rw[Af h0];dsimp only;generalize aA σ t.aN=r at hn ⊢;cases k
  all_goals dsimp only[HW,ja9,n7]at hn ⊢
  all_goals (refine j2 func85 ntmps85 results85 λw M E b0=>?_)
  all_goals (repeat' first|apply Ca 3;(refine Cm 3 ?_)|apply Ca 4;(refine j3 4 ?_)|apply Ca 11;refine Ch (hc:=hn) ?_|refine yyp ?_;try refine Ce ?_ ?_<;>intro hb|refine yy ?_|refine yy2 ?_ ?_<;>intro hcmp|apply ah;refine Cc [0,1,3,4,5,6,7,36] ?_|refine Cb λK hK=>?_|apply_assumption -exfalso -symm)
  all_goals first
   |(exfalso;exact h0 (by assumption))
   |((refine j1 (j6 ⟨?_,rfl⟩))
     rfl)
theorem qf9 (l:List Sc.Ent)(hl:l.length<=1000000000):FnD prog gl 84 [.d (.list 3 (l.map Fv))] (λv=>v=.d (.list 1 ((l.map (·.aD)).map .str))):=by
 (refine j5 func84 ntmps84 results84 λw M=>?_)
 (repeat' first|refine yyp ?_;try refine Ce ?_ ?_<;>intro hb|refine yy ?_|apply ah;refine Cc Wv ?_|refine Cb λK hK=>?_|apply_assumption -exfalso -symm)
 refine mu4 (t:=3) (e:=9) (sz:=1) rfl rfl ?_;refine j9 [3,5,8,9,10,11,12,13,14,15,16,17] [3] (λx:Nat × Nat=>[(8,.d (.int .i64 x.1)),(3,.own 3 x.2)]) (λx=>[(3,.row 9 1 true (((l.take x.1).map (·.aD)).map .str) x.2)]) (λx=>x.1<=l.length) (λx=>l.length - x.1) (0,0) (Ai _) λ⟨j,kv⟩ hj=>?_;dsimp only[Ac,Ad]at hj ⊢;have hlen:((l.take j).map (·.aD)).length=j:=by simp;omega
 rcases Ah j l.length with hj2|hj2
 ·(repeat' first|apply Ca 5;(refine j3 5 ?_)|apply Ca 15;(refine Df 15 ?_)|refine yyp ?_;try refine Ce ?_ ?_<;>intro hb|refine yy ?_|(apply Cw;first|(refine Da (λkv=>?_))|(refine ai (λsx sp kv hsx hsp hsl=>?_)))|apply ah;refine Cc Wv ?_|refine Cb λK hK=>?_|apply_assumption -exfalso -symm)
  refine⟨(j+1,kv),by dsimp only;omega,by dsimp only;omega,?_⟩;dsimp only;rw[Ao hj2];simp only[Ar,Ap,Ba];exact r9
 ·(repeat' first|refine yyp ?_;try refine Ce ?_ ?_<;>intro hb|refine yy ?_|apply ah;refine Cc Wv ?_|refine Cb λK hK=>?_|apply_assumption -exfalso -symm)
  have:l.take j=l:=Am hj2;rw[this]
  (refine j1 (j8 ?_))
  rfl
def dPx (p:Pr):D:=.agg [.int .u8 p.kind,.str p.name,
    .int .u8 p.av.kind,.int .u8 p.av.op,.int .u8 p.av.ty,.int .i32 p.av.n,.str p.av.s,.list 6 (p.av.l.map dEx),
    .list 6 (p.aj.map dEx),.list 6 (p.au.map dE),
    .str p.rep.name,.int .u8 p.rep.base.kind,.int .u8 p.rep.base.op,.int .u8 p.rep.base.ty,.int .i32 p.rep.base.n,.str p.rep.base.s,.list 6 (p.rep.base.l.map dEx),
    .int .u8 p.rep.count.kind,.int .u8 p.rep.count.op,.int .u8 p.rep.count.ty,.int .i32 p.rep.count.n,.str p.rep.count.s,.list 6 (p.rep.count.l.map dEx),
    .list 23 (p.ak.map dGu),.list 42 (p.l.map dPr),.list 1 (p.ay.map (.int .i64)),
    .int .u8 p.spec.kind,.int .u8 p.spec.type.kind,.int .i64 p.spec.type.dim,.int .u8 p.spec.type.item,.str p.spec.type.aN,.list 1 (p.spec.names.map .str),
    .int .u8 p.spec.e.kind,.int .u8 p.spec.e.op,.int .u8 p.spec.e.ty,.int .i32 p.spec.e.n,.str p.spec.e.s,.list 6 (p.spec.e.l.map dEx),
    .bool p.spec.aN.cases,.list 2 (p.spec.aN.l.map dVa),.list 6 (p.spec.ax.map dFo),.list 42 (p.spec.body.map dPr)]
theorem qg0:dPr=dPx:=by
 rw[v6];funext p;unfold dP dPx;rw[k9]
theorem mv5 (env:ByteArray->List Sc.Ent)(kind:Int)(av:Ex)(e:Ex)(l:List Ex)(hx:(env av.s).getLast?=none):Dc env kind av (e::l)=false:=by
 unfold Dc;split
 ·dsimp only;rw[hx,Bc]
 ·rfl
theorem mk8 (env:ByteArray->List Sc.Ent)(kind:Int)(av:Ex)(e:Ex)(l:List Ex)(x:Sc.Ent)(hx:(env av.s).getLast?=some x):Dc env kind av (e::l)=(decide (kind=5) && (decide (e.kind=4) && (!x.aN && x.tags.any (Sc.isB e.s)))):=by
 unfold Dc;split
 ·rename_i h;dsimp only;rw[hx,Bm h,Bf]
 ·rename_i h;rw[Bn h,Ay]
theorem jh0 (k:Sc.Kind)(σ:W)(p:Pr)(hp:p.kind=5->0<p.au.length):FnE prog gl 47 [.ptr 900 0,.d (dPr p)] (HW k σ)
 (λv H1=>v=.d (.bool (Dc σ.env p.kind p.av p.au))/\H1=HW k σ):=by
 rw[qg0];by_cases h5:p.kind=5
 ·have hpos:=hp h5;obtain⟨e,l,hel⟩:∃ e l,p.au=e::l:=by
   cases h:p.au with
   |nil=>rw[h]at hpos;simp at hpos
   |cons e l=>exact⟨e,l,rfl⟩
  have h0:p.au[0]=e:=by simp only[hel,List.getElem_cons_zero]
  cases hx:(σ.env p.av.s).getLast? with
  |none=>
   have hf:=md6 gl k σ p.av.s hx;rw[hel,mv5 _ _ _ _ _ hx];cases k
   all_goals dsimp only[HW,ja9,n7]at hf ⊢
   all_goals (refine j2 func47 ntmps47 results47 λw M E b0=>?_)
   all_goals (repeat' first|apply Ca 3;(refine Cm 3 ?_)|refine zas [10,27] ?_;(first|refine yyp ?_;try refine Ce ?_ ?_<;>intro hb|refine yy2 ?_ ?_<;>intro hcmp);all_goals try (first|refine Dl true 10 17 Pw ?_|refine Dl false 27 4 Pw ?_)|apply Ca 17;refine yyp ?_;try refine Ce ?_ ?_<;>intro hb|apply Ca 23;refine Ch (hc:=hf) ?_|apply Ca 5;(refine j3 5 ?_)|refine yyp ?_|refine yy ?_|refine yy2 ?_ ?_<;>intro hcmp|apply ah;refine Cc Pw ?_|refine Cb λK hK=>?_|apply Cf 4;refine j0 [] qf8 ?_|apply_assumption -exfalso -symm)
   all_goals (refine j1 (j6 ⟨?_,rfl⟩))
   all_goals rfl
  |some x=>
   have hf:=md5 gl k σ p.av.s x hx;have hc:=n0 gl x.tags p.au[0].s;rw[hel,mk8 _ _ _ _ _ _ hx,<-h0];generalize x.tags.any (Sc.isB p.au[0].s)=b at hc ⊢;obtain⟨xf,xp,xt⟩:=x;dsimp only at hc ⊢;cases k
   all_goals dsimp only[HW,ja9,n7,Fv]at hf ⊢
   all_goals (refine j2 func47 ntmps47 results47 λw M E b0=>?_)
   all_goals (repeat' first|apply Ca 3;(refine Cm 3 ?_)|refine zas [10,27,32] ?_;(first|refine yyp ?_;try refine Ce ?_ ?_<;>intro hb|refine yy2 ?_ ?_<;>intro hcmp);all_goals try (first|refine Dl true 10 17 Pw ?_|refine Dl false 27 4 Pw ?_|refine Dl false 32 4 Pw ?_)|apply Ca 17;refine yyp ?_;try refine Ce ?_ ?_<;>intro hb|apply Ca 23;refine Ch (hc:=hf) ?_|apply Ca 5;(refine j3 5 ?_)|refine yyp ?_|refine yy ?_|refine yy2 ?_ ?_<;>intro hcmp|apply Cg 62;refine Ci (hc:=hc) ?_|apply ah;refine Cc Pw ?_|refine Cb λK hK=>?_|apply Cf 4;refine j0 [] qf8 ?_|apply_assumption -exfalso -symm)
   all_goals (refine j1 (j6 ⟨?_,rfl⟩))
   all_goals (clear hc hf;(repeat (rename (∀ S,TC _ _ _ S->_)=>hX;clear hX));simp_all;try rfl)
 ·have hfalse:Dc σ.env p.kind p.av p.au=false:=by unfold Dc;rw[Af h5]
  rw[hfalse];cases k
  all_goals dsimp only[HW,ja9,n7]
  all_goals (refine j2 func47 ntmps47 results47 λw M E b0=>?_)
  all_goals (repeat' first|apply Ca 3;(refine Cm 3 ?_)|apply Ca 10;(first|refine yyp ?_;try refine Ce ?_ ?_<;>intro hb|refine yy2 ?_ ?_<;>intro hcmp);all_goals try refine Dl true 10 17 Pw ?_|refine yyp ?_|refine yy ?_|apply ah;refine Cc Pw ?_|refine Cb λK hK=>?_|apply Cf 4;refine j0 [] qf8 ?_|apply_assumption -exfalso -symm)
  all_goals (refine j1 (j6 ⟨?_,rfl⟩))
  all_goals rfl
end
end Go.Proofs.YtklklgfpkpglgaaGreatDoor
