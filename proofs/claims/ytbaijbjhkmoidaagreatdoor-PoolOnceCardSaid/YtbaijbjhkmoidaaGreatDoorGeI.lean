/- A ghost interpreter of the model's code, and that it tells the truth: part 9. It says of a function of plain data what a call of it comes to. -/
import Derived.Test.YtbaijbjhkmoidaaGreatDoorGeH
import Derived.Scope
import Derived.Laws.Sem
set_option linter.unusedVariables false
set_option linter.unusedSimpArgs false
set_option linter.unusedSectionVars false
namespace Go.Ge
open RowKit
def mq(f:Nat->aS->Bool)(mem:Nat->Option aS):Nat->Option aS:=λb=>match mem b with|some c=>some { c with lk:=f b c }|none=>none
section
variable {P:Program} {B:Own} {N:Nat} {γ Nq:Gh} {mem m0 me m1:Nat->Option aS} {w w0:World} {f:Nat->aS->Bool}
theorem Ai{b:Nat}{c:aS}(h:mem b=some c):mq f mem b=some { c with lk:=f b c }:=by simp[mq,h]
theorem DC{b:Nat}{d:aS}(h:mq f mem b=some d):∃c,mem b=some c/\d={ c with lk:=f b c }:=by
 simp only[mq] at h;split at h
 .rename_i c e;exact⟨c,e,(aq h).symm⟩
 .cases h
theorem Ext.mq:Ext B γ mem w γ (mq f mem) w where
 below:=lg.refl _ _
 I:=λ_ _ h=>h
 mo:=λ_ _ h=>.inl h
 cells:=λ_ _ _=>rfl
 boxes:=λb d c=>⟨_,Ai c,cU _,λ_=>⟨rfl,rfl,rfl⟩⟩
theorem aO.mq(h:aO B γ mem w):aO B γ (Go.Ge.mq f mem) w:=by
 have g:∀{b},Go.Ge.mq f mem b≠none->mem b≠none:=by
  intro b e m;apply e;simp[Go.Ge.mq,m]
 exact
  { bD:=h.bD
    base:=h.base
    boxes:=λb n e=>by
     obtain⟨i,h0,rfl⟩:=DC e;exact(h.boxes b i h0).keep (Ext.mq (B:=B) (γ:=γ) (w:=w) (f:=f) (mem:=mem)) rfl (λ_ _ _=>rfl)
    inj:=λb c d k o e p j q=>h.inj b c d k o (g e) (g p) j q
    fresh:=λb d k e j=>h.fresh b d k (g e) j
    lX:=h.lX
    sep:=λb n d k l e j r=>by
     obtain⟨i,h0,rfl⟩:=DC e;exact h.sep b i d k l h0 j r }
theorem b6.mq{b:St}{a:Act}(h:b6 B N γ b a w):b6 B N γ { b with mem:=Go.Ge.mq f b.mem } a w:=h.go Ext.mq h.ok.mq
def Mid(g h i:Nat->Option aS):Prop:=∀b d,g b=some d->∃c,i b=some c/\d.au<=c.au /\
 (c.au=d.au->∃e,h b=some e/\e.au=d.au/\e.buf=c.buf/\e.row=c.row)
theorem gC.down(m:Mid m0 me m1){b g:Nat}{n K j:aS->Prop}(o:gC m0 b g n)(h:gC me b g K)(p:∀d c:aS,d.buf=c.buf->d.row=c.row->K d->j c):gC m1 b g j:=by
 obtain⟨i,q,y,_⟩:=o;obtain⟨d,r,z,s⟩:=h;obtain⟨c,t,A,u⟩:=m b i q;refine⟨c,t,by omega,λe=>?_⟩;obtain⟨k,l,C,v,x⟩:=u (by omega);rw[r] at l;obtain rfl:=aq l;exact p d c v x (s<|by omega)
theorem bw.down(g:Mid m0 me m1):∀{v:ax} {m:Mode} {us d:List Value},bw Nq m0 w0 v m us->bw γ me w v m d->bw γ m1 w v m d:=by
 intro v;induction v with
 | undef=>intro m us d _ r;cases m<;>exact r
 | data t x=>intro m us d _ r;cases m<;>exact r
 | jt=>intro m us d _ r;cases m<;>exact r
 | cB=>intro m us d _ r;cases m<;>exact r
 | vv=>intro m us d _ r;cases m<;>exact r
 | cell t x=>intro m us d _ r;cases m<;>exact r
 | nl=>intro m us d _ r;cases m<;>exact r
 | lA=>intro m us d _ r;cases m<;>exact r
 | ny b au =>
   intro m us d c r;cases m with
   | many=>exact r
   | cells=>exact⟨r.1,c.2.down g r.2 λ_ _ _ _ k=>k⟩
   | val=>exact⟨r.1,c.2.down g r.2 λ_ _ _ _ k=>k⟩
 | ptr b au p =>
   intro m us d c r;cases m with
   | many=>exact r
   | cells=>exact⟨r.1,c.2.down g r.2 λ_ _ _ _ k=>k⟩
   | val=>exact⟨r.1,c.2.down g r.2 λ_ _ _ _ k=>k⟩
 | whole b au =>
   intro m us d c r;cases m with
   | many=>exact r
   | cells=>exact⟨r.1,c.2.down g r.2 λ_ _ h j k=>by rw[<-h,<-j];exact k⟩
   | val=>exact⟨r.1,c.2.down g r.2 λ_ _ h j k=>by rw[<-h,<-j];exact k⟩
 | kM b au =>
   intro m us d c r;cases m with
   | many=>exact r
   | cells=>exact⟨r.1,c.2.down g r.2 λ_ _ h j k=>by rw[<-h];exact k⟩
   | val=>exact⟨r.1,c.2.down g r.2 λ_ _ h j k=>by rw[<-h];exact k⟩
 | ju l=>intro m us d _ r;cases m<;>exact r
 | part b au lo n =>
   intro m us d c r;cases m with
   | many=>exact r
   | cells=>exact⟨r.1,c.2.down g r.2 λ_ _ h j k=>by unfold sW at k⊢;rw[<-h,<-j];exact k⟩
   | val=>exact⟨r.1,c.2.down g r.2 λ_ _ h j k=>by unfold sW at k⊢;rw[<-h,<-j];exact k⟩
 | win b au q e k lo n =>
   intro m us d c r;cases m with
   | many=>exact r
   | cells=>exact⟨r.1,c.2.down g r.2 λ_ _ h j k=>k⟩
   | val=>exact⟨r.1,c.2.down g r.2 λ_ _ h j k=>k⟩
 | fn f J =>
   intro m us d c r;cases m with
   | many=>exact r
   | cells=>obtain⟨_,_,_,s⟩:=c;obtain⟨o,y,z,I⟩:=r;exact⟨o,y,z,λi b au D=>(s i b au D).down g (I i b au D) λ_ _ _ _ k=>k⟩
   | val=>obtain⟨_,_,_,s⟩:=c;obtain⟨o,y,z,I⟩:=r;exact⟨o,y,z,λi b au D=>(s i b au D).down g (I i b au D) λ_ _ _ _ k=>k⟩
 | mix a b A C =>
   intro m us d c r;cases m with
   | cells=>obtain⟨_,_,_,E,F⟩:=c;obtain⟨G,H,c,y,z⟩:=r;exact⟨G,H,c,A E y,C F z⟩
   | val=>obtain⟨_,_,_,E,F⟩:=c;obtain⟨G,H,c,y,z⟩:=r;exact⟨G,H,c,A E y,C F z⟩
   | many=>obtain⟨_,_,_,E,F⟩:=c;obtain⟨G,H,c,y,z⟩:=r;exact⟨G,H,c,A E y,C F z⟩
 | pG u K =>
   intro m us d c r;cases m with
   | val=>obtain⟨_,_,s⟩:=c;obtain⟨o,y,z⟩:=r;exact⟨o,y,K s z⟩
   | cells=>exact r
   | many=>exact r
def Km(M:Nat->Bool)(V:Nat->Bool->Bool)(e g h:Nat->Option aS):Prop:=∀b c,e b=some c->∃d zy,g b=some d/\h b=some zy/\d.buf=c.buf/\zy.buf=c.buf/\zy.row=d.row /\
 zy.au=(bif M b&&V b c.buf then c.au+1 else c.au)/\((M b&&V b c.buf)=false->d.au=c.au)
theorem Km.mid{M:Nat->Bool}{V:Nat->Bool->Bool}(h:Km M V m0 me m1):Mid m0 me m1:=λb c l=>by
 obtain⟨i,d,m,k,n,o,p,g,q⟩:=h b c l;cases j:(M b&&V b c.buf) with
 | true =>
   rw[j] at g;simp only[cd] at g;exact⟨d,k,by omega,λe=>absurd e (by omega)⟩
 | false =>
   rw[j] at g;simp only[fk] at g;exact⟨d,k,by omega,λe=>⟨i,m,q j,n.trans o.symm,p.symm⟩⟩
def xW:Sh->ax->Prop
 | .d _,_=>True
 | .k v,u=>v=u
 | .m a b,u=>∃p q,u=.mix p q/\xW a p/\xW b q
 | .mp,u=>∃l,u=.ju l
theorem Me(v:ax):xW (LU v) v:=by
 induction v with
 | mix a b c d=>exact⟨a,b,rfl,c,d⟩
 | data t x=>trivial
 | ju l=>exact⟨l,rfl⟩
 | _=>rfl
theorem Kn{t:Ty}{v:ax}{y:t.den}(h:toD t v=some y){m:Mode}{c:List Value}(b:bw γ me w v m c):bw γ m1 w (.data t y) m c:=by
 unfold toD at h;split at h
 .obtain⟨q,d⟩:=Ty.fZ h;subst q;subst d;cases m<;>exact b
 .split at h
  .obtain rfl:=aq h;cases m with
   | many=>exact b
   | cells=>exact .inl ⟨⟨none,b⟩,rfl⟩
   | val=>exact⟨[.slice none 0 0],.inl ⟨⟨none,rfl⟩,rfl⟩,(show c=[Value.slice none 0 0] from b)⟩
  .cases h
 .cases h
theorem DD{M:Nat->Bool}{V:Nat->Bool->Bool}{E C:St}(K:Km M V E.mem C.mem m1)(hV:∀b x,V b false=true->E.mem b=some x->x.buf=false){u v:ax}(o:nz V E C u v=true){m:Mode}{us r:List Value}(Y:bw Nq E.mem w0 u m us)(l:bw γ C.mem w v m r) :
  bw γ m1 w (bump M V u) m r:=by
 unfold nz at o;split at o
 .rename_i b c p b' k p';simp only[cA] at o;obtain⟨⟨R,D⟩,h⟩:=o;obtain rfl:=cG R;obtain rfl:=Ex D;have still:c=k->(M b&&V b false)=false->bw γ m1 w (bump M V<|.ptr b c p) m r:=by
   intro e q;subst e;have e:bump M V (.ptr b c p)=.ptr b c p:=by simp only[bump,q];rfl
   rw[e];exact bw.down K.mid Y l
  cases z:V b false with
  | false =>
    rw[z] at h;exact still (cG h) (by simp[z])
  | true =>
    rw[z] at h;simp only[cd] at h;split at h
    .rename_i x y L F;simp only[cA] at h;have H:=cG h.1;have O:=cG h.2;obtain⟨S,d,I,Q,W,X,Z,J,g7⟩:=K b x L;rw[F] at I;obtain rfl:=aq I;cases t:M b with
     | false=>exact still (by have:=g7 (by simp[t]);omega) (by simp[t])
     | true =>
       have e:bump M V (.ptr b c p)=.ptr b (c+1) p:=by simp only[bump,t,z];rfl
       have A:d.au=c+1:=by rw[J,t,hV b x z L,z];simp;omega
       rw[e];cases m with
       | many=>exact l
       | cells=>exact⟨l.1,d,Q,by omega,λ_=>aC F O l.2⟩
       | val=>exact⟨l.1,d,Q,by omega,λ_=>aC F O l.2⟩
    .cases h
 .rename_i b c b' k;simp only[cA] at o;obtain⟨R,h⟩:=o;obtain rfl:=cG R;split at h
  .rename_i x y L F;simp only[cA] at h;obtain⟨⟨D,H⟩,O⟩:=h;have D:=cG D;have H:=cG H;obtain⟨S,d,I,Q,W,X,Z,J,g7⟩:=K b x L;rw[F] at I;obtain rfl:=aq I;have s:x.buf=true:=by rw[<-W];exact O
   have key:∀i,d.au=i->((∃v,r=[v]/\v.oneCell'=true)/\gC C.mem b k λG=>∃e n,G.buf=true/\G.row=some (e,n) /\
     ((γ.loc b=none/\r=[.slice none 0 0])\/∃g j,γ.loc b=some (g,j)/\r=[.slice (some ⟨g,0,none⟩) n j])) ->
     ((∃v,r=[v]/\v.oneCell'=true)/\gC m1 b i λG=>∃e n,G.buf=true/\G.row=some (e,n) /\
     ((γ.loc b=none/\r=[.slice none 0 0])\/∃g j,γ.loc b=some (g,j)/\r=[.slice (some ⟨g,0,none⟩) n j])):=by
    intro i A T;have hk:=aC F H T.2;exact⟨T.1,d,Q,by omega,λ_=>by obtain⟨e,n,q1,q2,q3⟩:=hk;exact⟨e,n,X.trans s,Z.trans q2,q3⟩⟩
   have A:∃i,bump M V (.whole b c)=.whole b i/\d.au=i:=by
    unfold bump;cases t:(M b&&V b true) with
    | true=>exact⟨c+1,by simp[t],by rw[J,s,t,<-D];rfl⟩
    | false=>exact⟨c,by simp[t],by rw[J,s,t,<-D];rfl⟩
   obtain⟨i,e1,U⟩:=A;rw[e1];cases m with
   | many=>exact l
   | cells=>exact key i U l
   | val=>exact key i U l
  .cases h
 .rename_i b c b' k;simp only[cA] at o;obtain⟨R,h⟩:=o;obtain rfl:=cG R;split at h
  .rename_i x y L F;simp only[cA] at h;obtain⟨⟨D,H⟩,O⟩:=h;have D:=cG D;have H:=cG H;obtain⟨S,d,I,Q,W,X,Z,J,g7⟩:=K b x L;rw[F] at I;obtain rfl:=aq I;have s:x.buf=true:=by rw[<-W];exact O
   have key:∀i,d.au=i->((∃v,r=[v]/\v.oneCell'=true)/\gC C.mem b k λG=>G.buf=true /\
     ((γ.loc b=none/\r=[.map none])\/∃g j,γ.loc b=some (g,j)/\r=[.map<|some g])) ->
     ((∃v,r=[v]/\v.oneCell'=true)/\gC m1 b i λG=>G.buf=true /\
     ((γ.loc b=none/\r=[.map none])\/∃g j,γ.loc b=some (g,j)/\r=[.map<|some g])):=by
    intro i A T;have hk:=aC F H T.2;exact⟨T.1,d,Q,by omega,λ_=>⟨X.trans s,hk.2⟩⟩
   have A:∃i,bump M V (.kM b c)=.kM b i/\d.au=i:=by
    unfold bump;cases t:(M b&&V b true) with
    | true=>exact⟨c+1,by simp[t],by rw[J,s,t,<-D];rfl⟩
    | false=>exact⟨c,by simp[t],by rw[J,s,t,<-D];rfl⟩
   obtain⟨i,e1,U⟩:=A;rw[e1];cases m with
   | many=>exact l
   | cells=>exact key i U l
   | val=>exact key i U l
  .cases h
 .rename_i f Nz f' RF;simp only[cA] at o;obtain rfl:=cG o.1;obtain rfl:=Ey o.2;exact bw.down K.mid Y l
 .cases m<;>exact l
 .cases m<;>exact l
 .simp only[cA] at o;obtain rfl:=cG o.1;obtain rfl:=cG o.2;exact bw.down K.mid Y l
 .cases o
theorem GG{V:Nat->Bool->Bool}{b c:St}{u v:ax}:Sh.out V b c (.k u) v=bif nz V b c u v then some () else none:=rfl
theorem Pc{V:Nat->Bool->Bool}{c d:St}{a b:Sh}{v w:ax}:Sh.out V c d (.m a b) (.mix v w)=(match Sh.out V c d a v,Sh.out V c d b w with
 | some x,some y=>some ((x,y):(Sh.m a b).ty.den)
 | _,_=>none):=rfl
theorem GH{M:Nat->Bool}{V:Nat->Bool->Bool}{e g:St}(L:Km M V e.mem g.mem m1)(O:∀b x,V b false=true->e.mem b=some x->x.buf=false):∀{s:Sh} {u v:ax} {y:s.ty.den} {m:Mode} {us n:List Value},xW s u->Sh.out V e g s v=some y ->
  bw Nq e.mem w0 u m us->bw γ g.mem w v m n->bw γ m1 w (s.kU M V y) m n:=by
 intro s;induction s with
 | d t=>intro u v y m us n _ c _ h;exact Kn c h
 | k x =>
   intro u v y m us n G c o h;obtain rfl:=G;rw[GG] at c;cases hs:nz V e g x v with
   | false=>rw[hs] at c;cases c
   | true=>exact DD L O hs o h
 | m a b i j =>
   intro u v y m us n G c o h;obtain⟨p,q,rfl,H,I⟩:=G;cases v with
   | mix Q R =>
     rw[Pc] at c;split at c
     .rename_i S T J K;obtain rfl:=aq c;cases m with
      | cells=>obtain⟨_,_,_,r,z⟩:=o;obtain⟨A,C,D,E,F⟩:=h;exact⟨A,C,D,i H J r E,j I K z F⟩
      | val=>obtain⟨_,_,_,r,z⟩:=o;obtain⟨A,C,D,E,F⟩:=h;exact⟨A,C,D,i H J r E,j I K z F⟩
      | many=>obtain⟨_,_,_,r,z⟩:=o;obtain⟨A,C,D,E,F⟩:=h;exact⟨A,C,D,i H J r E,j I K z F⟩
     .cases c
   | _=>cases c
 | mp =>
   intro u v y m us n G c o h;cases v with
   | ju l=>cases m<;>exact h.elim
   | _=>cases c
theorem HO{t:Ty}{v:ax}{y:t.den}(h:toD t v=some y):(v=.data t y)\/(v=.jt/\∃e,t=.slice e):=by
 unfold toD at h;split at h
 .obtain⟨q,b⟩:=Ty.fZ h;subst q;subst b;exact .inl rfl
 .split at h
  .exact .inr ⟨rfl,_,rfl⟩
  .cases h
 .cases h
theorem GI{M:Nat->Bool}{V:Nat->Bool->Bool}{E F:St}{s:Sh}{c zy:aS}{y:s.ty.den}(g:Sh.out V E F s c.val=some y)(G:zy.val=s.kU M V y)(H:zy.buf=c.buf)(j:c.buf=true->(∃e l,c.val=.data (.slice e) l)\/∃l,c.val=.ju l) :
  zy.row=c.row/\(c.buf=true->zy.val=c.val):=by
 have o:∀t x,c.val=.data t x->zy.val=c.val:=by
  intro t x i;rw[i] at g;cases s with
  | d u =>
    obtain⟨q,r⟩:=Ty.fZ (show Ty.to t u x=some y from g);subst q;subst r;rw[G,i];rfl
  | k z=>rw[GG] at g;unfold nz at g;cases z<;>cases g
  | m a b=>cases g
  | mp=>cases g
 have n:∀{C D:aS},C.buf=D.buf->C.val=D.val->C.row=D.row:=by
  intro C D J K;unfold aS.row;rw[J,K]
 cases i:c.val with
 | data t x =>
   have:=o t x i;exact⟨n H this,λ_=>by rw[this,i]⟩
 | ju l =>
   have e:zy.val=c.val:=by
    rw[i] at g;cases s with
    | d u=>cases g
    | k z=>rw[GG] at g;unfold nz at g;cases z<;>cases g
    | m a b=>cases g
    | mp=>obtain rfl:=aq (show some l=some y from g);rw[G,i];rfl
   exact⟨n H e,λ_=>by rw[e,i]⟩
 | _ =>
   refine⟨?_,λh=>by rcases j h with ⟨e,l,q⟩|⟨l,q⟩<;>· rw[i] at q;cases q⟩;cases r:c.buf with
   | true=>rcases j r with ⟨e,l,q⟩|⟨l,q⟩<;>· rw[i] at q;cases q
   | false =>
     have L:c.row=none:=by unfold aS.row;rw[r,i]
     rw[L];unfold aS.row;rw[H,r,G];rw[i] at g;cases s with
     | d u =>
       rcases HO (show toD u _=some y from g) with q|⟨q,e,rfl⟩
       .first|cases q|exact absurd i (by rw[q];intro k;cases k)
       .rfl
     | k z =>
       rw[GG] at g;simp only[Sh.kU];have I:∀t x,bump M V z≠.data t x:=by
        intro t x q;cases z with
        | data Q R=>unfold nz at g;cases g
        | kM b v=>simp only[bump] at q;cases A:(M b&&V b true)<;>rw[A] at q<;>cases q
        | whole b v=>simp only[bump] at q;cases A:(M b&&V b true)<;>rw[A] at q<;>cases q
        | ptr b v p=>simp only[bump] at q;cases A:(M b&&V b false)<;>rw[A] at q<;>cases q
        | _=>cases q
       split<;>first|rfl|(rename_i O;exact absurd O (I _ _))
     | m a b=>rfl
     | mp=>rfl
end
end Go.Ge
namespace Go.Ge
open RowKit
section
variable {P:Program} {B:Own} {N:Nat} {γ Nq:Gh} {w w0:World} {rK nq:St} {a a0:Act} {M:Nat->Bool} {V:Nat->Bool->Bool}
theorem Ko:∀{l:List (Nat×Sh)} {x:(Ox l).den},LV V rK nq l=some x->∀t,(AY M V l x t=none/\∀s,(t,s)∉l)\/∃s y,(t,s)∈l/\Sh.out V rK nq s (nq.slots t)=some y/\AY M V l x t=some (s.kU M V y):=by
 intro l;induction l with
 | nil=>intro x _ t;exact .inl ⟨rfl,λs h=>by cases h⟩
 | cons p r j =>
   obtain⟨i,s⟩:=p;intro x h t;simp only[LV] at h;split at h
   .rename_i y z k m;obtain rfl:=aq h;by_cases e:t=i
    .subst e;refine .inr ⟨s,y,kQ ..,k,?_⟩;show(bif Nat.beq t t then some (s.kU M V y) else AY M V r z t)=_
     simp
    .have n:Nat.beq t i=false:=fm e;have o:AY M V ((i,s)::r) ((y,z):(Ox ((i,s)::r)).den) t=AY M V r z t:=by
      show(bif Nat.beq t i then some (s.kU M V y) else AY M V r z t)=_
      rw[n];rfl
     rw[o];rcases j m t with ⟨c,d⟩|⟨g,q,c,d,u⟩
     .refine .inl ⟨c,λg b=>?_⟩;rcases eR.1 b with b|b
      .exact e (b8 b).1
      .exact d g b
     .exact .inr ⟨g,q,kJ _ c,d,u⟩
   .cases h
theorem sq{g i:Bool}{d b:aS}(h:uW g i d b=true):(d.ro=true->(b.ro||g)=true)/\d.buf=b.buf/\(i=false->d.au=b.au):=by
 simp only[uW,cA,wG,beq_iff_eq] at h;obtain⟨⟨⟨e,m⟩,j⟩,c⟩:=h;refine⟨λk=>by rcases e with e|e<;>simp[e,<-k],j,λl=>?_⟩;rcases c with c|c
 .rw[l] at c;cases c
 .exact cG c
theorem HP{d e:Bool}{c b:aS}(h:uW d e c b=true):c.tid=b.tid:=by
 simp only[uW,cA] at h;exact cG h.1.1.2
theorem DE{c:Bool}:∀{l:List (Nat×Sh×aS)} {x:(NG l).den},LW V c rK nq l=some x->∀t,(wV c M V l x t=none/\mE l t=false) \/
  ∃s b y g,mE l t=true/\(t,s,b)∈l/\nq.mem t=some g/\uW c (V t b.buf) g b=true/\Sh.out V rK nq s g.val=some y/\wV c M V l x t=some { b with val:=s.kU M V y,ro:=b.ro||c,au:=bif V t b.buf then b.au+1 else b.au }:=by
 intro l;induction l with
 | nil=>intro x _ t;exact .inl ⟨rfl,rfl⟩
 | cons p r q =>
   obtain⟨i,s,b⟩:=p;intro x h t;simp only[LW] at h;split at h
   .rename_i g j;cases d:uW c (V i b.buf) g b with
    | false=>rw[d] at h;cases h
    | true =>
      rw[d] at h;simp only[cd] at h;split at h
      .rename_i y z u v;obtain rfl:=aq h;by_cases e:t=i
       .subst e;refine .inr ⟨s,b,y,g,by simp[mE],kQ ..,j,d,u,?_⟩;show(bif Nat.beq t t then some { b with val:=s.kU M V y,ro:=b.ro||c,au:=bif V t b.buf then b.au+1 else b.au } else wV c M V r z t)=_
        simp
       .have o:Nat.beq t i=false:=fm e;have A:wV c M V ((i,s,b)::r) ((y,z):(NG ((i,s,b)::r)).den) t=wV c M V r z t:=by
         show(bif Nat.beq t i then some { b with val:=s.kU M V y,ro:=b.ro||c,au:=bif V t b.buf then b.au+1 else b.au } else wV c M V r z t)=_
         rw[o];rfl
        have m:mE ((i,s,b)::r) t=mE r t:=by simp only[mE,o,zW]
        rw[A,m];rcases q v t with k|⟨C,D,E,n,F,G,H⟩
        .exact .inl k
        .exact .inr ⟨C,D,E,n,F,kJ _ G,H⟩
      .cases h
   .cases h
structure pt (k:Carry) (rK:St):Prop where
 S:∀t s,(t,s)∈k.S->xW s (rK.slots t)
 M:∀b s bx,(b,s,bx)∈k.M->rK.mem b=some bx/\xW s bx.val/\bx.lk=false
 V:∀b x,k.V b false=true->rK.mem b=some x->x.buf=false
theorem NV{u:Ctx}{m:St}:∀{p:List (Nat×Nat)} {l:List (Nat×Sh)},Pz u m p=some l->∀t s,(t,s)∈l->xW s (m.slots t):=by
 intro p;induction p with
 | nil=>intro l h t s c;obtain rfl:=aq h;cases c
 | cons q r o =>
   obtain⟨i,x⟩:=q;intro l h t s c;simp only[Pz] at h;split at h
   .cases h
   .rename_i y g;have fin:∀n,xW n (m.slots i)->some ((i,n)::y)=some l->xW s (m.slots t):=by
     intro n z e;obtain rfl:=aq e;rcases eR.1 c with c|c
     .obtain⟨rfl,rfl⟩:=b8 c;exact z
     .exact o g t s c
    cases j:Nat.beq x 999999 with
    | true =>
      rw[j] at h;simp only[cd] at h;split at h
      .rename_i b v A;exact fin (.k _) A.symm h
      .obtain rfl:=aq h;exact o g t s c
    | false =>
    rw[j] at h;simp only[fk] at h;split at h
    .exact fin (.d _) trivial h
    .split at h
     .exact fin (.d _) trivial h
     .cases h
    .split at h
     .exact fin (.d _) trivial h
     .cases h
    .exact fin (.k _) rfl h
theorem Kp{k:St}:∀{p:List Nat} {l:List (Nat×Sh×aS)},OG k p=some l->∀b s d,(b,s,d)∈l->k.mem b=some d/\xW s d.val/\d.lk=false:=by
 intro p;induction p with
 | nil=>intro l h b s d c;obtain rfl:=aq h;cases c
 | cons i r m =>
   intro l h b s d c;simp only[OG] at h;split at h
   .rename_i g u n j;cases e:g.lk with
    | true=>rw[e] at h;cases h
    | false =>
      rw[e] at h;obtain rfl:=aq h;rcases eR.1 c with c|c
      .injection c with o c
       injection c with q t
       subst o;subst q;subst t;exact⟨n,Me _,e⟩
      .exact m j b s d c
   .cases h
theorem pv{e:Ctx}{g:Nat}{i:List Nat}{c:St}{p:wU}{k:Carry}(h:wj e g i c p=some k):pt k c:=by
 unfold wj at h;split at h
 .rename_i s m j l;obtain rfl:=aq h;refine⟨NV j,Kp l,λb x d n=>?_⟩;simp only[fk,OH,n,cA,fO] at d;exact d.2.1
 .cases h
theorem Mf{l:List (Nat×Sh×aS)}{b:Nat}(h:mE l b=true):∃s c,(b,s,c)∈l:=by
 induction l with
 | nil=>cases h
 | cons p r e =>
   obtain⟨i,s,c⟩:=p;simp only[mE,wG] at h;rcases h with h|h
   .obtain rfl:=cG h;exact⟨s,c,kQ ..⟩
   .obtain⟨g,d,j⟩:=e h;exact⟨g,d,kJ _ j⟩
theorem jY{k:Carry}{O lock:Bool}{wr:List Nat}{x:k.ty.den}(hk:pt k rK)(h0:b6 B N Nq rK a0 w0)(G:b6 B N γ nq a w)(hx:Ext B Nq rK.mem w0 γ nq.mem w)
  (hf:∀t,bJ wr t=false->a.tmps[t]?=a0.tmps[t]?) (C:∀b g,rK.mem b=some g->mE k.M b=false->∃bl,nq.mem b=some { g with lk:=bl }) (ho:k.out O rK nq=some x) :
  b6 B N γ (k.kU O lock wr rK x) a w/\Ext B Nq rK.mem w0 γ (k.kU O lock wr rK x).mem w:=by
 unfold Carry.out at ho;split at ho
 case h_2=>cases ho
 rename_i xs xm NS RG;obtain rfl:=aq ho;generalize R:k.kU O lock wr rK (xs,xm)=aV;have W:∀t,aV.slots t=match AY (mE k.M) k.V k.S xs t with|some v=>v|none=>bif bJ wr t then .undef else rK.slots t:=λt=>by rw[<-R];rfl
 have T:∀b,aV.mem b=match wV O (mE k.M) k.V k.M xm b with|some g=>some g|none=>match rK.mem b with|some g=>some { g with lk:=g.lk||lock }|none=>none:=λb=>by rw[<-R];rfl
 have D:∀b,mE k.M b=false->aV.mem b=match rK.mem b with|some g=>some { g with lk:=g.lk||lock }|none=>none:=by
  intro b i;rw[T b];rcases DE (M:=mE k.M) RG b with ⟨q,_⟩|⟨s,b',y,g,q,_⟩
  .rw[q]
  .rw[i] at q;cases q
 have here:∀b,mE k.M b=true->∃s o y g,rK.mem b=some o/\xW s o.val/\nq.mem b=some g/\uW O (k.V b o.buf) g o=true/\Sh.out k.V rK nq s g.val=some y /\
   aV.mem b=some { o with val:=s.kU (mE k.M) k.V y,ro:=o.ro||O,au:=bif k.V b o.buf then o.au+1 else o.au }:=by
  intro b i;rcases DE (M:=mE k.M) RG b with ⟨_,q⟩|⟨s,o,y,g,q,X,Y,q3,q4,q5⟩
  .rw[i] at q;cases q
  .obtain⟨Z,k2,_⟩:=hk.M b s o X;exact⟨s,o,y,g,Z,k2,Y,q3,q4,by rw[T b,q5]⟩
 have E:∀b g,nq.mem b=some g->g.buf=true->(∃e l,g.val=.data (.slice e) l)\/∃l,g.val=.ju l:=by
  intro b g i J;have:=G.ok.boxes b g i;rw[ca,J] at this;rcases this with ⟨l,q,_⟩|⟨e,l,q,_⟩
  .exact .inr ⟨l,q⟩
  .exact .inl ⟨e,l,q⟩
 have hC:Km (mE k.M) k.V rK.mem nq.mem aV.mem:=by
  intro b d i;cases j:mE k.M b with
  | false =>
    obtain⟨bl,F⟩:=C b d i j;have u:=D b j;rw[i] at u;exact⟨_,_,F,u,rfl,rfl,rfl,by simp,λ_=>rfl⟩
  | true =>
    obtain⟨s,o,y,g,g1,g2,U,g4,g5,g6⟩:=here b j;rw[i] at g1;obtain rfl:=aq g1;obtain⟨o1,o2,o3⟩:=sq g4;obtain⟨r1,r2⟩:=GI (M:=mE k.M) (V:=k.V) (zy:={ d with val:=s.kU (mE k.M) k.V y,ro:=d.ro||O,au:=bif k.V b d.buf then d.au+1 else d.au }) g5 rfl o2.symm (E b g U);refine⟨g,_,U,g6,o2,rfl,r1,by simp,λH=>o3 ?_⟩;simpa using H
 have hE:Ext B Nq rK.mem w0 γ aV.mem w :=
  { below:=hx.below
    I:=hx.I
    mo:=hx.mo
    cells:=hx.cells
    boxes:=λb d i=>by
     obtain⟨Q,zy,c1,c2,c3,c4,c5,c6,c7⟩:=hC b d i;obtain⟨S6,e1,e2,e3⟩:=hx.boxes b d i;rw[c1] at e1;obtain rfl:=aq e1;cases H:(mE k.M b&&k.V b d.buf) with
     | true =>
       rw[H] at c6;simp only[cd] at c6;exact⟨zy,c2,by omega,λe=>absurd e (by omega)⟩
     | false =>
       rw[H] at c6;simp only[fk] at c6;obtain⟨r1,r2,r3⟩:=e3 (c7 H);exact⟨zy,c2,by omega,λ_=>⟨r1,c4,c5.trans r3⟩⟩ }
 refine⟨⟨λt=>?_,G.size,G.defers,?_⟩,hE⟩
 .rw[W t];rcases Ko (M:=mE k.M) NS t with ⟨q,_⟩|⟨s,y,X,Y,q3⟩
  .rw[q];simp only;cases hw:bJ wr t with
   | true=>exact⟨_,rfl⟩
   | false =>
     have:a.tmps.getD t undef=a0.tmps.getD t undef:=by simp only[Eo,hf t hw]
     rw[this];exact(h0.slots t).ext hE
  .rw[q3];exact GH hC hk.V (hk.S t s X) Y (h0.slots t) (G.slots t)
 .have Nr:∀b,aV.mem b≠none->∃d,rK.mem b=some d:=by
   intro b i;cases j:mE k.M b with
   | true=>obtain⟨s,o,y,g,g1,_⟩:=here b j;exact⟨o,g1⟩
   | false =>
     rw[D b j] at i;cases H:rK.mem b with
     | none=>rw[H] at i;exact absurd rfl i
     | some d=>exact⟨d,rfl⟩
  have K:∀b,aV.mem b≠none->nq.mem b≠none:=by
   intro b i;obtain⟨d,u⟩:=Nr b i;obtain⟨Q,zy,c1,_⟩:=hC b d u;rw[c1];simp
  exact
   { bD:=G.ok.bD
     base:=G.ok.base
     boxes:=λb zy i=>by
      cases j:mE k.M b with
      | true =>
        obtain⟨s,o,y,g,g1,g2,U,g4,g5,g6⟩:=here b j;rw[i] at g6;obtain rfl:=aq g6;obtain⟨o1,o2,o3⟩:=sq g4;have o4:=HP g4;obtain⟨r1,r2⟩:=GI (M:=mE k.M) (V:=k.V) (zy:={ o with val:=s.kU (mE k.M) k.V y,ro:=o.ro||O,au:=bif k.V b o.buf then o.au+1 else o.au }) g5 rfl o2.symm (E b g U);have m:=G.ok.boxes b g U;have p:=h0.ok.boxes b o g1;unfold ca at m p⊢;dsimp only at r2⊢;rcases Na g.buf with r|r
        .rw[r] at m;rw[<-o2,r];have Oy:=r2 r;rcases m with ⟨l,X,Y⟩|⟨e,l,X,Y,q3⟩
         .exact .inl ⟨l,Oy.trans X,Y⟩
         .refine .inr ⟨e,l,Oy.trans X,Y,?_⟩;dsimp only;rw[<-o4];exact q3
        .rw[r] at m;rw[<-o2,r];rw[<-o2,r] at p;obtain⟨_,_,_,_,_,_,_,_,_,z⟩:=p;obtain⟨A,cap,cur,tid,fr,z1,z2,z3,L,z4⟩:=m;exact⟨A,cap,cur,tid,fr,z1,z2,z3,o4▸L,GH hC hk.V g2 g5 z z4⟩
      | false =>
        have u:=D b j;rw[i] at u;cases H:rK.mem b with
        | none=>rw[H] at u;cases u
        | some d =>
          rw[H] at u;obtain rfl:=aq u;obtain⟨bl,F⟩:=C b d H j;have m:=G.ok.boxes b _ F;have p:=h0.ok.boxes b d H;unfold ca at m p⊢;dsimp only at m⊢;rcases Na d.buf with r|r
          .rw[r] at m⊢;exact m
          .rw[r] at m p⊢;obtain⟨_,_,_,_,_,_,_,_,_,z⟩:=p;obtain⟨A,cap,cur,tid,fr,z1,z2,z3,L,z4⟩:=m;exact⟨A,cap,cur,tid,fr,z1,z2,z3,L,bw.down hC.mid z z4⟩
     inj:=λb c A Z k2 i hc u h2=>G.ok.inj b c A Z k2 (K b i) (K c hc) u h2
     fresh:=λb A Z i u=>G.ok.fresh b A Z (K b i) u
     lX:=G.ok.lX
     sep:=λb zy A Z off i u hi=>by
      obtain⟨d,q0⟩:=Nr b (by rw[i];simp);obtain⟨Q,S7,c1,c2,c3,c4,c5,c6,c7⟩:=hC b d q0;rw[i] at c2;obtain rfl:=aq c2;obtain⟨s1,s2⟩:=G.ok.sep b Q A Z off c1 u hi;have PG:Q.ro=true->zy.ro=true:=by
       cases j:mE k.M b with
       | true =>
         obtain⟨s,o,y,g,g1,g2,U,g4,g5,g6⟩:=here b j;rw[c1] at U;obtain rfl:=aq U;rw[i] at g6;obtain rfl:=aq g6;exact(sq g4).1
       | false =>
         have u:=D b j;rw[i,q0] at u;obtain rfl:=aq u;obtain⟨bl,F⟩:=C b d q0 j;rw[c1] at F;obtain rfl:=aq F;exact λh=>h
      exact⟨PG s1,λJ e n hr=>s2 (by rw[c3,<-c4];exact J) e n (by rw[<-c5];exact hr)⟩ }
end
end Go.Ge
namespace Go.Ge
variable [Lp]
open RowKit
theorem tC{p:Nat->Prop}(h:∃n,p n):∃n,p n/\∀m,p m->n<=m:=by
 obtain⟨n,c⟩:=h;induction n using Nat.strongRecOn with
 | _ n d =>
   by_cases h:∃m,m<n/\p m
   .obtain⟨m,e,g⟩:=h;exact d m e g
   .exact⟨n,c,λm i=>Nat.le_of_not_lt λb=>h ⟨m,b,i⟩⟩
open Classical in
noncomputable def least(p:Nat->Prop):Nat:=if h:∃n,p n then Classical.choose (tC h) else 0
theorem xX{p:Nat->Prop}(h:∃n,p n):p (least p)/\∀m,p m->least p<=m:=by
 unfold least;rw[dif_pos h];exact He (tC h)
theorem uJ{P:Program}{c:Code}{Q:Exit->Act->World->Prop}{a:Act}{w:World}(I:Nat->Act->World->Prop){n:Nat}(j:I n a w)
  (b:∀n a w,I n a w->c.wp P (Exit.then (λg w'=>∃m,m<n/\I m g w') Q) a w):(Code.loop c).wp P Q a w:=by
 refine wp_loop (λa w=>∃n,I n a w) (λa w=>least λn=>I n a w) ⟨n,j⟩ λa w h=>?_;obtain⟨k,l⟩:=xX h;refine wp_mono (b _ a w k) λe g w' i=>?_;cases e with
 | normal =>
   obtain⟨m,m1,d⟩:=i;exact⟨⟨m,d⟩,Nat.lt_of_le_of_lt ((xX ⟨m,d⟩).2 m d) m1⟩
 | _=>exact i
def xY:Nat->Exit
 | 0=>.normal
 | 1=>.ret
 | i+2=>.exit i
theorem vj{l m:List Nat}{t:Nat}:bJ (l++m) t=(bJ l t||bJ m t):=by
 induction l with
 | nil=>rfl
 | cons i r b=>simp only[wF,bJ,b,Jx]
def tD(b:List Nat)(a c:Act):Prop:=∀t,bJ b t=false->c.tmps[t]?=a.tmps[t]?
theorem tD.refl(b:List Nat)(a:Act):tD b a a:=λ_ _=>rfl
theorem tD.trans{d:List Nat}{a b c:Act}(h:tD d a b)(k:tD d b c):tD d a c:=λt e=>(k t e).trans (h t e)
theorem tD.left{c e:List Nat}{a b:Act}(h:tD c a b):tD (c++e) a b:=λt d=>h t (by rw[vj,wD] at d;exact d.1)
theorem tD.right{e c:List Nat}{a b:Act}(h:tD c a b):tD (e++c) a b:=λt d=>h t (by rw[vj,wD] at d;exact d.2)
theorem DF{t:Nat}:∀{l:List Oper} {k:Nat},bJ (kh l) t=false->iZ t (number k l)=false:=by
 intro l;induction l with
 | nil=>intro k _;rfl
 | cons o l b =>
   intro k h;simp only[number,iZ];cases c:o.dst with
   | none=>simp only[kh,c] at h;rw[b h];rfl
   | some d =>
     simp only[kh,c,bJ,wD] at h;rw[b h.2];simp only[Jv];exact fm λe=>by subst e;simp at h
theorem BL{l:List Oper}{o:Oper}(h:o∈l){k:Nat}(c:o.dst=some k):k∈kh l:=by
 induction l with
 | nil=>cases h
 | cons p l b =>
   rcases eR.1 h with h|h
   .subst h;simp only[kh,c];exact kQ ..
   .simp only[kh];split
    .exact kJ _ (b h)
    .exact b h
theorem Aj{l:Type}{f:Nat->Tree l}:∀{es:List Nat} {e i:Nat},vw es e=some i->(sS es i f).run=(f e).run:=by
 intro es;induction es with
 | nil=>intro e i h;cases h
 | cons k r n =>
   intro e i h;simp only[vw] at h;have one:∀{b:Bool},(bif b then some 0 else(vw r e).map (·+1))=some i->(b=true/\i=0)\/(b=false/\∃j,vw r e=some j/\i=j+1):=by
    intro b g;cases b with
    | true=>exact .inl ⟨rfl,(aq g).symm⟩
    | false =>
      obtain⟨j,c,d⟩:=pS.1 g;exact .inr ⟨rfl,j,c,d.symm⟩
   rcases one h with ⟨c,rfl⟩|⟨c,j,d,rfl⟩
   .obtain rfl:=cG c;cases r with
    | nil=>rfl
    | cons m s=>rfl
   .cases r with
    | nil=>cases d
    | cons m s=>exact n d
section
variable {P:Program} {B:Own} {N:Nat} {cx:Ctx} {nb:Nat} {bf:List Nat} {inl:Nat->List ax->St->Tree (ax×St)}
theorem Fh(b:∀f c σ v aB,(inl f c σ).run=some (v,aB)->aM σ aB):∀(l:List Oper) (k:Nat) (done:List qd) (σ aB:St),(wS cx nb bf inl (number k l) done σ).run=some aB->aM σ aB:=by
 intro l;induction l with
 | nil=>intro k done σ aB h;obtain rfl:=aq h;exact aM.refl _
 | cons o l d =>
   intro k done σ aB h;simp only[number,wS] at h;split at h
   .cases h
   .obtain⟨m,e⟩:=ak h;obtain⟨aV,g,i⟩:=bind_some e;exact(qq b aV<|re (λj=>wu o σ j) g).trans (d _ _ _ _ i)
theorem HQ{c:Bool}{M:Nat->Bool}{V:Nat->Bool->Bool}:∀{l:List (Nat×Sh×aS)} {x:(NG l).den} {t:Nat},mE l t=false->wV c M V l x t=none:=by
 intro l;induction l with
 | nil=>intro x t _;rfl
 | cons p r d =>
   obtain⟨i,s,b⟩:=p;intro x t h;simp only[mE,wD] at h;simp only[wV,h.1,fk];exact d h.2
theorem DG{k:Carry}{g c:Bool}{wr:List Nat}{e:St}{x:k.ty.den}{b:Nat}{d:aS}(i:e.mem b=some d)(h:mE k.M b=false):(k.kU g c wr e x).mem b=some { d with lk:=d.lk||c }:=by
 simp only[Carry.kU];rw[HQ h,i]
theorem qv{k:Carry}{fz lock:Bool}{wr:List Nat}{c:St}{x:k.ty.den}(i:pt k c):aM c (k.kU fz lock wr c x):=by
 intro b j e d;have:mE k.M b=false:=by
  cases l:mE k.M b with
  | false=>rfl
  | true =>
    obtain⟨s,m,n⟩:=Mf l;obtain⟨g,_,h⟩:=i.M b s m n;rw[e] at g;obtain rfl:=aq g;rw[d] at h;cases h
 rw[DG e this];cases j;simp only at d;subst d;rfl
theorem vk{b:Type}{Q:b->Prop}{f:Nat->Tree b}(c:∀e y,(f e).run=some y->Q y):∀{es:List Nat} {i:Nat} {y:b},(sS es i f).run=some y->Q y:=by
 intro es;induction es with
 | nil=>intro i y h;cases h
 | cons k r g =>
   intro i y h;cases r with
   | nil=>exact c k y h
   | cons m s =>
     have:=eh h;cases d:n9 i 0 with
     | true=>rw[d] at this;exact c k y this
     | false=>rw[d] at this;exact g this
theorem xZ:∀{l:List Nat} {σ aB:St},sR l σ=some aB->aM σ aB:=by
 intro l;induction l with
 | nil=>intro σ aB h;obtain rfl:=aq h;exact aM.refl _
 | cons m r b =>
   intro σ aB h;unfold sR at h;cases c:Nat.ble 2000000 m with
   | false=>rw[c] at h;exact b h
   | true =>
     rw[c] at h;simp only[cd] at h;split at h
     .split at h
      .split at h
       .split at h
        .rename_i d;exact(jX d).trans ((aM.put _ _ _).trans<|b h)
        .cases h
       .cases h
      .cases h
     .exact b h
theorem vl{B:Own}{N:Nat}{a:Act}{w:World}:∀{l:List Nat} {σ aB:St} {γ:Gh},sR l σ=some aB->b6 B N γ σ a w->∃bc,b6 B N bc aB a w/\Ext B γ σ.mem w bc aB.mem w:=by
 intro l;induction l with
 | nil=>intro σ aB γ h b;obtain rfl:=aq h;exact⟨γ,b,Ext.refl _ _ _ _⟩
 | cons m r d =>
   intro σ aB γ h b;unfold sR at h;cases i:Nat.ble 2000000 m with
   | false=>rw[i] at h;exact d h b
   | true =>
     rw[i] at h;simp only[cd] at h;generalize m-2000000=k at h;split at h
     .split at h
      .split at h
       .split at h
        .rename_i x aV j;have hv:=b.slots k;obtain⟨e,c,n,o⟩:=iH b hv j;have p:b6 B N e (aV.put k<|.data (.slice _) x) a w:=⟨λt=>by
          unfold St.put;dsimp only;cases q:Nat.beq t k with
          | false=>exact c.slots t
          | true =>
            obtain rfl:=cG q;exact o,c.size,c.defers,c.ok⟩
         obtain⟨g,s,u⟩:=d h p;exact⟨g,s,n.trans u⟩
        .cases h
       .cases h
      .cases h
     .exact d h b
theorem Fi{f:St->Tree (Nat×St)}(e:∀σ r,(f σ).run=some r->aM σ r.2):∀(n:Nat) (σ:St) (r:Nat×St),(again f n σ).run=some r->aM σ r.2:=by
 intro n;induction n with
 | zero=>intro σ r h;cases h
 | succ n g =>
   intro σ r h;obtain⟨i,j,b⟩:=bind_some h;have c:=e _ _ j;cases d:Nat.beq i.1 0 with
   | true=>rw[d] at b;exact c.trans (g _ _ b)
   | false=>rw[d] at b;obtain rfl:=aq b;exact c
theorem DH{f:St->Tree (Nat×St)}(g:∀σ r,(f σ).run=some r->aM σ r.2){c:Nat}:∀(n j:Nat) (σ:St) (r:Nat×St),(uo f c n j σ).run=some r->aM σ r.2:=by
 intro n;induction n with
 | zero=>intro j σ r h;cases h
 | succ n i =>
   intro j σ r h;unfold uo at h;split at h
   .have h:=bM h;obtain⟨k,l,b⟩:=bind_some h.2;have d:=(aM.put σ c _).trans (g _ _ l);cases e:Nat.beq k.1 0 with
    | true=>rw[e] at b;exact d.trans (i _ _ _ b)
    | false=>rw[e] at b;obtain rfl:=aq b;exact d
   .cases h
theorem mW(g:∀f u σ v aB,(inl f u σ).run=some (v,aB)->aM σ aB):∀(c:Code) (pl:List (Option wU)) (σ:St) (r:Nat×St),(fi cx nb bf inl c pl σ).run=some r->aM σ r.2:=by
 intro c;induction c with
 | skip=>intro pl σ r h;obtain rfl:=aq h;exact aM.refl _
 | label l=>intro pl σ r h;obtain rfl:=aq h;exact aM.refl _
 | ret=>intro pl σ r h;obtain rfl:=aq h;exact aM.refl _
 | exit i=>intro pl σ r h;obtain rfl:=aq h;exact aM.refl _
 | region id ops I =>
   intro pl σ r h;obtain⟨aV,p,d⟩:=bind_some h;obtain rfl:=aq d;cases I with
   | true =>
     have j:(ox cx nb bf inl ops σ).run=some aV:=p;unfold ox at j;cases E:ops.any λo=>o.guard.isSome with
     | true =>
       rw[E] at j;obtain⟨J,K⟩:=ak (show(bif gH ops.toList then ma cx nb bf inl ops (number 0 ops.toList) [] σ (λ_=>false) else .fail).run=some aV from j);exact Fc g _ _ _ _ _ _ K
     | false =>
       rw[E] at j;exact Fh g _ _ _ _ _ j
   | false=>exact tw g _ _ _ _ p
 | seq a b q s =>
   intro pl σ r h;obtain⟨z,p,d⟩:=bind_some h;have F:=q _ _ _ p;cases G:Nat.beq z.1 0 with
   | true=>rw[G] at d;exact F.trans (s _ _ _ d)
   | false=>rw[G] at d;obtain rfl:=aq d;exact F
 | block i a t =>
   intro pl σ r h;obtain⟨z,p,d⟩:=bind_some h;obtain rfl:=aq d;exact t _ _ z p
 | scope a t=>intro pl σ r h;exact t _ _ _ h
 | cond c a b q s =>
   intro pl σ r h;unfold fi at h;split at h
   .rename_i H L O;change Bool at H;have:=eh h;cases H with
    | false=>exact s _ _ _ this
    | true=>exact q _ _ _ this
   .split at h
    .cases h
    rename_i σ m;refine(xZ m).trans ?_;split at h
    .cases h
    .rename_i k A;have n:=pv A;dsimp only at h;split at h
     .rw[Tree.uh] at h;obtain⟨x,p,d⟩:=pZ.1 h;obtain rfl:=aq d;exact qv n
     .rw[Tree.uh] at h;obtain⟨x,p,d⟩:=pZ.1 h;exact vk (Q:=λr:Nat×St=>aM σ r.2) (λe y C=>by obtain rfl:=aq C;exact qv n) d
   .cases h
 | loop a t =>
   intro pl σ r h;unfold fi at h;split at h
   .split at h
    .exact DH (λσ r D=>t _ _ _ D) _ _ _ _ h
    split at h
    .cases h
    rename_i σ m;refine(xZ m).trans ?_;split at h
    .cases h
    .rename_i k A;have n:=pv A;dsimp only at h;split at h
     .cases h
     .split at h
      .obtain⟨x,p,d⟩:=bo h;obtain rfl:=aq d;exact qv n
      .obtain⟨x,p,d⟩:=bo h;exact vk (Q:=λr:Nat×St=>aM σ r.2) (λe y C=>by obtain rfl:=aq C;exact qv n) d
   .exact Fi (λσ r D=>t _ _ _ D) _ _ _ h
   .cases h
 | _=>intro pl σ r h;cases h
end
end Go.Ge
namespace Go.Ge
variable [Lp]
open RowKit
section
variable {P:Program} {B:Own} {N:Nat} {cx:Ctx} {nb:Nat} {bf:List Nat} {inl:Nat->List ax->St->Tree (ax×St)}
theorem tE(k:Carry)(c:St):(k.lock c).mem=mq (λb d=>bif mE k.M b then d.lk else true) c.mem:=by
 funext b;simp only[Carry.lock,mq];cases c.mem b with
 | none=>rfl
 | some d=>simp only;cases mE k.M b<;>rfl
theorem Mg(k:Carry)(c:St):k.lock c={ c with mem:=mq (λb d=>bif mE k.M b then d.lk else true) c.mem }:=by
 have:=tE k c;unfold Carry.lock at this⊢;dsimp only at this⊢;rw[this]
theorem x4{T c:Type}{b:Bool}{t:Tree T}{k:T->Tree c}{y:c}(h:(t.Gu b k).run=some y):∃x,t.run=some x/\(k x).run=some y:=by
 rw[Tree.uh] at h;exact pZ.1 h
theorem HR{T b:Type}{t:Tree T}{k:T->Tree b}{y:b}(h:(t.join k).run=some y):∃x,t.run=some x/\(k x).run=some y:=by
 rw[Tree.sL] at h;exact pZ.1 h
theorem x5{b:Type}{o:Option b}{y:b}(h:(Tree.JA o).run=some y):o=some y:=by
 cases o with
 | none=>cases h
 | some x=>exact h
theorem Kq{b e i:Nat}(h:vw [b] e=some i):e=b:=by
 simp only[vw] at h;cases c:Nat.beq b e with
 | true=>exact(cG c).symm
 | false=>rw[c] at h;cases h
theorem b6.GJ{c:Gh}{b:St}{a:Act}{w:World}(h:b6 B N c b a w){i:Nat}{v:ax}(d:bw c b.mem w v .val [a.tmps.getD i Go.undef]):b6 B N c (b.put i v) a w where
 slots:=λt=>by
  show bw c b.mem w (bif Nat.beq t i then v else b.slots t) .val _
  cases e:Nat.beq t i with
  | true=>obtain rfl:=cG e;exact d
  | false=>exact h.slots t
 size:=h.size
 defers:=h.defers
 ok:=h.ok
theorem tF{a:Act}{w:World}:∀{l:List (Nat×Sh)} {σ aB:St} {γ:Gh},settle l σ=some aB->b6 B N γ σ a w->∃bc,b6 B N bc aB a w/\Ext B γ σ.mem w bc aB.mem w/\aM σ aB:=by
 intro l;induction l with
 | nil=>intro σ aB γ h c;obtain rfl:=aq h;exact⟨γ,c,Ext.refl _ _ _ _,aM.refl _⟩
 | cons p r e =>
   obtain⟨i,s⟩:=p;intro σ aB γ h c;cases s with
   | d t =>
     simp only[settle] at h;split at h
     .rename_i x aV n;obtain⟨g,o,q,u⟩:=iH c (c.slots i) n;have y:b6 B N g (aV.put i<|.data t x) a w:=o.GJ u;obtain⟨j,z,A,C⟩:=e h y;exact⟨j,z,q.trans A,(jX n).trans C⟩
     .cases h
   | k v=>exact e h c
   | m a b=>exact e h c
   | mp=>exact e h c
theorem tG{k:Carry}{l:Bool}{wr:List Nat}{x:k.ty.den}{c e:St}{g m:Gh}{a q:Act}{w n:World}(r:pt k c)(s:b6 B N g c q n)(u:b6 B N m e a w)(v:Ext B g c.mem n m e.mem w)
  (y:∀t,bJ wr t=false->a.tmps[t]?=q.tmps[t]?) (d:∀b i,c.mem b=some i->mE k.M b=false->e.mem b=some { i with lk:=true }) (j:k.wW l c e=some x) :
  ∃bc,b6 B N bc (k.kU l false wr c x) a w/\Ext B g c.mem n bc (k.kU l false wr c x).mem w:=by
 unfold Carry.wW at j;cases l with
 | false=>exact⟨m,jY r s u v y (λb i o h=>⟨true,d b i o h⟩) j⟩
 | true =>
   simp only[cd] at j;split at j
   .rename_i aV z;obtain⟨p,A,C,D⟩:=tF z u;exact⟨p,jY r s A (v.trans C) y (λb i o h=>⟨true,D b _ (d b i o h) rfl⟩) j⟩
   .cases j
theorem BM{k:Carry}{p:Bool}{wr:List Nat}{x:k.ty.den}{c e:St}{g l:Gh}{a q:Act}{w m:World}(r:pt k c)(s:b6 B N g c q m)(u:b6 B N l e a w)(v:Ext B g c.mem m l e.mem w)
  (y:∀t,bJ wr t=false->a.tmps[t]?=q.tmps[t]?) (d:∀b i,c.mem b=some i->mE k.M b=false->e.mem b=some { i with lk:=true }) (j:k.CP p c e=some x) :
  ∃bc,b6 B N bc (k.kU false true wr c x) a w/\Ext B g c.mem m bc (k.kU false true wr c x).mem w:=by
 unfold Carry.CP at j;cases p with
 | false=>exact⟨l,jY r s u v y (λb i n h=>⟨true,d b i n h⟩) j⟩
 | true =>
   simp only[cd] at j;split at j
   .rename_i aV z;obtain⟨o,A,C,D⟩:=tF z u;exact⟨o,jY r s A (v.trans C) y (λb i n h=>⟨true,D b _ (d b i n h) rfl⟩) j⟩
   .cases j
noncomputable def roundOf(d:Ctx)(e:Nat)(g:List Nat)(inl:Nat->List ax->St->Tree (ax×St))(k:Carry)(h j:Bool)(b:St)(c:Code)(l:List (Option wU))(x:k.ty.den):Option (k.ty.den⊕(Nat×k.ty.den)) :=
 ((fi d e g inl c l<|k.kU false true (writes c) b x).bind λr=>bif Nat.beq r.1 0 then(match k.CP h b r.2 with
   | some y=>.ret (.inl y)
   | none=>.fail)
  else match vw (mf c) r.1,k.wW j b r.2 with
   | some i,some y=>.ret (.inr (i,y))
   | _,_=>.fail).run
theorem Ak{c:Code}{k:Carry}{gv fz:Bool}{d:St}{D:Gh}{a:Act}{w:World}{Q:Exit->Act->World->Prop}{R:Type}(E:pt k d)(h:b6 B N D d a w){F:k.ty.den}(G:k.out false d d=some F)
  (f:k.ty.den->Option (k.ty.den⊕R)) (t:R->Nat->k.ty.den->Prop) {z:R} (hL:Loop f F=some z)
  (hf:∀x r,f x=some r->∃e y,(match r with|.inl H=>e=0/\H=y|.inr z=>e≠0/\t z e y) /\
   ∀l u w1 (Q':Exit->Act->World->Prop),b6 B N l (k.kU false true (writes c) d x) u w1->(∀nq bc g w',(bif Nat.beq e 0 then k.CP gv d nq else k.wW fz d nq)=some y->aM (k.kU false true (writes c) d x) nq->b6 B N bc nq g w'->Ext B l (k.kU false true (writes c) d x).mem w1 bc nq.mem w'->tD (writes c) u g->Q' (xY e) g w') ->
    c.wp P Q' u w1)
  (p:∀e y,e≠0->t z e y->∀bc g w',b6 B N bc (k.kU fz false (writes c) d y) g w'->Ext B D d.mem w bc (k.kU fz false (writes c) d y).mem w'->tD (writes c) a g->Q (xY e) g w') :
  (Code.loop c).wp P Q a w:=by
 obtain⟨n,hn⟩:=kg hL;refine uJ (λm g w'=>∃bc x,b6 B N bc (k.kU false true (writes c) d x) g w'/\Ext B D d.mem w bc (k.kU false true (writes c) d x).mem w'/\tD (writes c) a g/\rounds f m x=some z) (n:=n) ?_ ?_
 .obtain⟨s,x⟩:=jY (lock:=true) (wr:=writes c) E h h (Ext.refl _ _ _ _) (λ_ _=>rfl) (λb v I _=>⟨v.lk,I⟩) G;exact⟨D,F,s,x,tD.refl _ _,hn⟩
 .intro m u w1 hI;obtain⟨l,x,s1,e1,f1,J⟩:=hI;cases m with
  | zero=>cases J
  | succ m =>
    simp only[rounds] at J;obtain⟨r,K,A⟩:=pZ.1 J;obtain⟨e,y,Y,L⟩:=hf x r K;refine L l u w1 _ s1 λnq bc g w' O S Z e2 f2=>?_;have hx:=e1.trans e2;have o:=f1.trans f2;have j:∀b v,d.mem b=some v->mE k.M b=false->nq.mem b=some { v with lk:=true }:=λb v I T=>by
     have:=S b _ (DG I T) (by simp);simpa using this
    cases r with
    | inl H =>
      obtain⟨rfl,rfl⟩:=Y;obtain⟨q,U,W⟩:=BM (wr:=writes c) E h Z hx o j O;exact⟨m,Gm m,q,H,U,W,o,A⟩
    | inr z' =>
      obtain⟨C,hO⟩:=Y;obtain rfl:=aq A;have X:Nat.beq e 0=false:=fm C;rw[X] at O;obtain⟨q,U,W⟩:=tG (wr:=writes c) E h Z hx o j O;have:=p e y C hO q g w' U W o
      match e,C,this with
      | 0,C,_=>exact absurd rfl C
      | 1,_,this=>exact this
      | i+2,_,this=>exact this
theorem HS{S:Type}{o:Option (S⊕(Nat×S))}{r:S⊕S}(h:fh o=some r):(∃y,r=.inl y/\o=some (.inl y))\/∃i y,r=.inr y/\o=some (.inr (i,y)):=by
 unfold fh at h;obtain⟨q,b,c⟩:=pS.1 h;cases q with
 | inl y=>exact .inl ⟨y,c.symm,b⟩
 | inr p=>exact .inr ⟨p.1,p.2,c.symm,b⟩
theorem lH(NW:P.follows .mixedOrders=true)(hc:df P cx)(Di:jy P B.G cx)(L7:nE P B.G inl)(I:∀f HE σ v aB,(inl f HE σ).run=some (v,aB)->aM σ aB) :
  ∀(c:Code) {pl:List (Option wU)} {σ:St} {γ:Gh} {a:Act} {w:World} {e:Nat} {aB:St} {Q:Exit->Act->World->Prop},(∀t∈writes c,t<N)->(fi cx nb bf inl c pl σ).run=some (e,aB)->b6 B N γ σ a w ->
   (∀bc d w',b6 B N bc aB d w'->Ext B γ σ.mem w bc aB.mem w'->tD (writes c) a d->Q (xY e) d w')->c.wp P Q a w:=by
 intro c;induction c with
 | skip =>
   intro pl σ γ a w e aB Q H g h u;obtain⟨rfl,rfl⟩:=b8 (aq g);exact wp_skip (u γ a w h (Ext.refl _ _ _ _)<|tD.refl _ _)
 | label l =>
   intro pl σ γ a w e aB Q H g h u;obtain⟨rfl,rfl⟩:=b8 (aq g);exact wp_label (u γ a w h (Ext.refl _ _ _ _)<|tD.refl _ _)
 | ret =>
   intro pl σ γ a w e aB Q H g h u;obtain⟨rfl,rfl⟩:=b8 (aq g);exact wp_ret (u γ a w h (Ext.refl _ _ _ _)<|tD.refl _ _)
 | exit i =>
   intro pl σ γ a w e aB Q H g h u;obtain⟨rfl,rfl⟩:=b8 (aq g);exact wp_exit (u γ a w h (Ext.refl _ _ _ _)<|tD.refl _ _)
 | region id ops dr =>
   intro pl σ γ a w e aB Q H g h u;obtain⟨aV,S,O⟩:=bind_some g;obtain⟨rfl,rfl⟩:=b8 (aq O);have OX:∀o∈ops.toList,∀k,o.dst=some k->k<N:=λo ho k hk=>H k (BL ho hk);have OV:∀{a d:Act},Fr (number 0 ops.toList) a d->tD (writes<|.region id ops dr) a d:=λhf t ht=>hf t (DF ht);cases dr with
   | true=>exact DB NW hc Di L7 OX S h λbc d w' s x f=>u bc d w' s x (OV f)
   | false=>exact Bw hc Di L7 I OX S h λbc d w' s x f=>u bc d w' s x (OV f)
 | seq x y PJ PK =>
   intro pl σ γ a w e aB Q H g h u;obtain⟨r1,S,O⟩:=bind_some g;obtain⟨Z,aV⟩:=r1;have PL:∀t∈writes x,t<N:=λt ht=>H t (iw _ ht);have PM:∀t∈writes y,t<N:=λt ht=>H t (pR _ ht);refine wp_seq (PJ PL S h λbc d w' D J C=>?_);cases Z with
   | zero=>exact PK PM O D λQG S8 S9 s2 x2 f2=>u QG S8 S9 s2 (J.trans x2) (C.left.trans f2.right)
   | succ Z =>
     obtain⟨rfl,rfl⟩:=b8 (aq O);have:=u bc d w' D J C.left;cases Z with
     | zero=>exact this
     | succ i=>exact this
 | block i x ih =>
   intro pl σ γ a w e aB Q H g h u;obtain⟨r1,S,O⟩:=bind_some g;obtain⟨Z,aV⟩:=r1;obtain⟨rfl,rfl⟩:=b8 (aq O);refine wp_block (ih H S h λbc d w' D J C=>?_);have:=u bc d w' D J C
   match Z,this with
   | 0,this=>exact this
   | 1,this=>exact this
   | j+2,this =>
     show Exit.inBlock i Q (.exit j) d w'
     unfold Exit.inBlock;by_cases e:j=i
     .subst e;simp only[jr];simpa [xY] using this
     .simp only[bp e];have hb:Nat.beq (j+2) (i+2)=false:=fm (by omega);rw[hb] at this;exact this
 | scope x ih =>
   intro pl σ γ a w e aB Q H g h u;refine wp_scope_straight (ih H g h λbc d w' D J C=>?_);have:=u bc d w' D J C
   match e,this with
   | 0,this=>exact this
   | 1,this=>exact this
   | j+2,this=>exact this
 | cond o x y PJ PK =>
   intro pl σ γ a w e aB Q H g h u;have PL:∀t∈writes x,t<N:=λt ht=>H t (iw _ ht);have PM:∀t∈writes y,t<N:=λt ht=>H t (pR _ ht);unfold fi at g;split at g
   .rename_i c0 F QH;change Bool at c0;have E:=h.bG o;rw[QH] at E;have E:=pf E;have hn:=eh g;cases c0 with
    | false=>exact wp_cond_false E (PK PM hn h λbc d w' D J C=>u bc d w' D J C.right)
    | true=>exact wp_cond_true E (PJ PL hn h λbc d w' D J C=>u bc d w' D J C.left)
   .rename_i c0 p F QH;change Bool at c0;have E:=h.bG o;rw[QH] at E;have E:=pf E;split at g
    .cases g
    rename_i σ NX;obtain⟨γ,h,T⟩:=vl NX h;replace u:=λbc d w' s x f=>u bc d w' s (T.trans x) f;clear T;split at g
    .cases g
    rename_i k hk;have NY:=pv hk;dsimp only at g;have go:∀{r:Nat×St},(Tree.node c0 (fi cx nb bf inl x F<|k.lock σ)<|fi cx nb bf inl y (F.drop<|marks x)<|k.lock σ).run=some r->∀{v:k.ty.den},k.wW p.fz σ r.2=some v ->
      (∀bc d w',b6 B N bc (k.kU p.fz false (writes x++writes y) σ v) d w'->Ext B γ σ.mem w bc (k.kU p.fz false (writes x++writes y) σ v).mem w'->tD (writes x++writes y) a d->Q (xY r.1) d w') ->
      (Code.cond o x y).wp P Q a w:=by
     intro r U v ho hQ;have IX:b6 B N γ (k.lock σ) a w:=by rw[Mg];exact h.mq
     have hle:Ext B γ σ.mem w γ (k.lock σ).mem w:=by rw[tE];exact Ext.mq
     have fin:aM (k.lock σ) r.2->∀bc d w',b6 B N bc r.2 d w'->Ext B γ (k.lock σ).mem w bc r.2.mem w'->tD (writes x++writes y) a d->Q (xY r.1) d w':=by
      intro Ta bc d w' D J C;obtain⟨PN,s2,x2⟩:=tG (wr:=writes x++writes y) NY h D (hle.trans J) C (λb bx hb HD=>Ta b _ (by rw[tE,Ai hb,HD];rfl) rfl) ho;exact hQ PN d w' s2 x2 C
     have hn:=eh U;cases c0 with
     | false=>exact wp_cond_false E (PK PM hn IX λbc d w' D J C=>fin (mW I _ _ _ _ hn) bc d w' D J C.right)
     | true=>exact wp_cond_true E (PJ PL hn IX λbc d w' D J C=>fin (mW I _ _ _ _ hn) bc d w' D J C.left)
    split at g
    .obtain⟨v,S,O⟩:=x4 g;obtain⟨rfl,rfl⟩:=b8 (aq O);obtain⟨r,h3,h4⟩:=bind_some S;obtain⟨h5,h6⟩:=ak h4;refine go h3 (x5 h6) λbc d w' s x f=>?_;rw[cG h5];exact u bc d w' s x f
    .rename_i es PO;obtain⟨v,S,O⟩:=x4 g;obtain⟨r,h3,h4⟩:=bind_some S;split at h4
     .rename_i i v' K ho;obtain rfl:=aq h4;rw[Aj K] at O;obtain⟨rfl,rfl⟩:=b8 (aq O);exact go h3 ho λbc d w' s x f=>u bc d w' s x f
     .cases h4
   .cases g
 | loop c ih =>
   intro pl σ γ a w e aB Q H g h u;unfold fi at g;split at g
   case h_2 =>
    rename_i F;generalize 100000=n at g;refine uJ (λm d w'=>∃bc aV,b6 B N bc aV d w'/\Ext B γ σ.mem w bc aV.mem w'/\tD (writes c) a d/\(again (λσ=>fi cx nb bf inl c F σ) m aV).run=some (e,aB)) (n:=n) ⟨γ,σ,h,Ext.refl _ _ _ _,tD.refl _ _,g⟩ ?_;intro m a1 w1 hI;obtain⟨R,aV,D,Z,C,L⟩:=hI;cases m with
    | zero=>cases L
    | succ m =>
      obtain⟨r,W,A⟩:=bind_some L;obtain⟨e',br⟩:=r;refine ih H W D λbc d w' s2 e2 f2=>?_;cases X:Nat.beq e' 0 with
      | true =>
        dsimp only at A;rw[X] at A;obtain rfl:=cG X;exact⟨m,Gm m,bc,br,s2,Z.trans e2,C.trans f2,A⟩
      | false =>
        dsimp only at A;rw[X] at A;obtain⟨rfl,rfl⟩:=b8 (aq A);have:=u bc d w' s2 (Z.trans e2) (C.trans f2)
        match e',X,this with
        | 0,X,_=>cases X
        | 1,_,this=>exact this
        | i+2,_,this=>exact this
   case h_3=>cases g
   rename_i p F;split at g
   .rename_i ct TW;generalize 100=n at g;generalize 0=j at g;refine uJ (λm d w'=>∃bc aV j',b6 B N bc aV d w'/\Ext B γ σ.mem w bc aV.mem w'/\tD (writes c) a d/\(uo (λσ=>fi cx nb bf inl c F σ) ct m j' aV).run=some (e,aB)) (n:=n) ⟨γ,σ,j,h,Ext.refl _ _ _ _,tD.refl _ _,g⟩ ?_;intro m a1 w1 hI;obtain⟨R,aV,j1,D,Z,C,L⟩:=hI;cases m with
    | zero=>cases L
    | succ m =>
      unfold uo at L;split at L
      case h_2=>cases L
      rename_i x T;obtain⟨hj,OP⟩:=bM L;obtain⟨r,W,A⟩:=bind_some OP;obtain⟨e',br⟩:=r;change Int at x;have Tc:x=(j1:Int):=yW (show decide (x=(j1:Int))=true from hj);have Td:b6 B N R (aV.put ct<|.data (.int .i64) (j1:Int)) a1 w1:=D.GJ (by
       have:=D.slots ct;rw[T] at this;rw[<-Tc];exact this)
      refine ih H W Td λbc d w' s2 e2 f2=>?_;have e2:Ext B R aV.mem w1 bc br.mem w':=e2;cases X:Nat.beq e' 0 with
      | true =>
        dsimp only at A;rw[X] at A;obtain rfl:=cG X;exact⟨m,Gm m,bc,br,j1+1,s2,Z.trans e2,C.trans f2,A⟩
      | false =>
        dsimp only at A;rw[X] at A;obtain⟨rfl,rfl⟩:=b8 (aq A);have:=u bc d w' s2 (Z.trans e2) (C.trans f2)
        match e',X,this with
        | 0,X,_=>cases X
        | 1,_,this=>exact this
        | i+2,_,this=>exact this
   split at g
   .cases g
   rename_i σ NX;obtain⟨γ,h,T⟩:=vl NX h;replace u:=λbc d w' s x f=>u bc d w' s (T.trans x) f;clear T;split at g
   .cases g
   rename_i k hk;have NY:=pv hk;dsimp only at g;split at g
   .cases g
   rename_i x0 RH;have hb:∀x r,roundOf cx nb bf inl k (bJ p.M 3777777) p.fz σ c F x=some r->∃e nq y,(fi cx nb bf inl c F<|k.kU false true (writes c) σ x).run=some (e,nq)/\(bif Nat.beq e 0 then k.CP (bJ p.M 3777777) σ nq else k.wW p.fz σ nq)=some y/\((e=0/\r=.inl y)\/(e≠0/\∃i,vw (mf c) e=some i/\r=.inr (i,y))):=by
    intro x r T;unfold roundOf at T;obtain⟨q,W,A⟩:=bind_some T;obtain⟨e,nq⟩:=q;dsimp only at A;cases he:Nat.beq e 0 with
    | true =>
      rw[he] at A;simp only[cd] at A;split at A
      .rename_i y hy;exact⟨e,nq,y,W,by rw[he];exact hy,.inl ⟨cG he,(aq A).symm⟩⟩
      .cases A
    | false =>
      rw[he] at A;simp only[fk] at A;split at A
      .rename_i i y hi hy;exact⟨e,nq,y,W,by rw[he];exact hy,.inr ⟨λe0=>(by subst e0;cases he),i,hi,(aq A).symm⟩⟩
      .cases A
   have step:∀{x:k.ty.den} {e:Nat} {nq:St} {y:k.ty.den},(fi cx nb bf inl c F<|k.kU false true (writes c) σ x).run=some (e,nq)->(bif Nat.beq e 0 then k.CP (bJ p.M 3777777) σ nq else k.wW p.fz σ nq)=some y->∀R a1 w1 (Q':Exit->Act->World->Prop),b6 B N R (k.kU false true (writes c) σ x) a1 w1 ->
     (∀nq bc d w',(bif Nat.beq e 0 then k.CP (bJ p.M 3777777) σ nq else k.wW p.fz σ nq)=some y->aM (k.kU false true (writes c) σ x) nq->b6 B N bc nq d w'->Ext B R (k.kU false true (writes c) σ x).mem w1 bc nq.mem w'->tD (writes c) a1 d->Q' (xY e) d w')->c.wp P Q' a1 w1:=by
    intro x e nq y U ho R a1 w1 Q' s hQ;exact ih H U s λbc d w' D J C=>hQ nq bc d w' ho (mW I _ _ _ _ U) D J C
   split at g
   .rename_i e0 PO;obtain⟨v,S,O⟩:=bo g;obtain⟨rfl,rfl⟩:=b8 (aq O);refine Ak (gv:=bJ p.M 3777777) (fz:=p.fz) NY h RH _ (λz e' y=>e'=e0/\z=y) S (λx r T=>?_) (λe' y Nr hO bc d w' s x f=>?_)
    .rcases HS T with ⟨y,rfl,hy⟩|⟨i,y,rfl,hy⟩
     .obtain⟨e,nq,y',W,A,Y⟩:=hb x _ hy;rcases Y with ⟨rfl,Y⟩|⟨_,i,_,Y⟩
      .obtain rfl:=Sum.inl.inj Y;exact⟨0,y,⟨rfl,rfl⟩,step W A⟩
      .cases Y
     .obtain⟨e,nq,y',W,A,Y⟩:=hb x _ hy;rcases Y with ⟨rfl,Y⟩|⟨Nr,i',K,Y⟩
      .cases Y
      .obtain⟨rfl,rfl⟩:=b8 (Sum.inr.inj Y);rw[PO] at K;exact⟨e,y,⟨Nr,Kq K,rfl⟩,step W A⟩
    .obtain⟨rfl,rfl⟩:=hO;exact u bc d w' s x f
   .obtain⟨v,S,O⟩:=bo g;refine Ak (gv:=bJ p.M 3777777) (fz:=p.fz) NY h RH _ (λz e' y=>vw (mf c) e'=some z.1/\z.2=y) S (λx r T=>?_) (λe' y Nr hO bc d w' s x f=>?_)
    .obtain⟨e,nq,y',W,A,Y⟩:=hb x _ T;rcases Y with ⟨rfl,rfl⟩|⟨Nr,i,K,rfl⟩
     .exact⟨0,y',⟨rfl,rfl⟩,step W A⟩
     .exact⟨e,y',⟨Nr,K,rfl⟩,step W A⟩
    .obtain⟨K,rfl⟩:=hO;rw[Aj K] at O;obtain⟨rfl,rfl⟩:=b8 (aq O);exact u bc d w' s x f
 | _=>intro pl σ γ a w e aB Q H g h u;cases g
end
end Go.Ge
namespace Go.Ge
variable [Lp]
open RowKit
def DI(fn:Func):Bool:=!(fn.name == "runtime.NumGoroutine")&&(match fn.body with|some c=>(writes c).all λt=>Nat.blt t fn.ntmps|none=>true)
def Al(cx:Ctx):Prop:=∀f b,find cx.fns f=some b->DI b=true
theorem lI{c:Type}{l:List (Nat×c)}{k:Nat}{x:c}(h:find l k=some x):(k,x)∈l:=by
 induction l with
 | nil=>cases h
 | cons p r d =>
   obtain⟨i,a⟩:=p;simp only[find] at h;cases b:Nat.beq i k with
   | true =>
     rw[b] at h;obtain rfl:=aq h;obtain rfl:=cG b;exact kQ ..
   | false=>rw[b] at h;exact kJ _ (d h)
theorem DJ{cx:Ctx}(h:(cx.fns.all λp=>DI p.2)=true):Al cx:=λf c b=>by
 rw[tZ] at h;exact h _ (lI b)
section
variable {P:Program} {B:Own} {N:Nat} {γ:Gh} {σ:St} {a:Act} {w:World} {cx:Ctx}
def uK(b:Array Value):ResultVar->Sem Value
 | .tmp t=>pure (b.getD t undef)
 | .cell a t=>do loadVar t (<-asAddr (b.getD a undef))
theorem pN(e:df P cx)(h:b6 B N γ σ a w){r:ResultVar}{v:ax}(d:(uq cx σ r).run=some v):∃b,(uK a.tmps r).run P w=.ok b w/\bw γ σ.mem w v .val [b]:=by
 cases r with
 | tmp t =>
   obtain rfl:=aq d;exact⟨_,rfl,h.slots t⟩
 | cell t ty =>
   obtain⟨τ,g,i⟩:=bind_some d;obtain rfl:=aq i;obtain⟨u,b,j,rfl,k,l,m⟩:=CW (P:=P) e (x:=.tmp t) h g;refine⟨b,?_,?_⟩
   .have c:a.tmps.getD t undef=.pointer (some j):=k;simp only[uK,c,asAddr,Sem.run_bind,Sem.run_pure,Result.andThen_ok,l]
   .simpa [St.aA,St.put] using m
theorem x6(e:df P cx)(h:b6 B N γ σ a w):∀{rs:List ResultVar} {v:ax},(sT cx σ rs).run=some v->∃b:List Value,b.length=rs.length/\(rs.mapM<|uK a.tmps).run P w=.ok b w/\bw γ σ.mem w v .many b:=by
 intro rs;induction rs with
 | nil=>intro v d;obtain rfl:=aq d;exact⟨[],rfl,rfl,rfl⟩
 | cons r rs g =>
   intro v d;obtain⟨t,i,j⟩:=bind_some d;obtain⟨l,k,m⟩:=bind_some j;obtain rfl:=aq m;obtain⟨c,n,o⟩:=pN e h i;obtain⟨b,p,q,s⟩:=g k;refine⟨c::b,by simp[p],?_,c,b,rfl,o,s⟩;simp only[Gp,Sem.run_bind,n,Result.andThen_ok,q,Sem.run_pure]
theorem Fj(d:Func)(b:Array Value):results d b=(do
  let c <-d.results.toList.mapM (uK b)
  pure (if h:c.toArray.size=1 then c.toArray[0] else .tuple c.toArray)):=by
 have h:results d b=(do
   let c <-d.results.mapM (uK b)
   pure (if h:c.size=1 then c[0] else .tuple c)):=by
  unfold results
  congr 1
 rw[h,Array.mapM_eq_mapM_toList];simp only[bind_map_left]
theorem nX(k:df P cx)(h:b6 B N γ σ a w){fn:Func}{v:ax}(d:(results1 cx σ fn.results.toList).run=some v):∃b,(results fn a.tmps).run P w=.ok b w/\bw γ σ.mem w v .val [b]:=by
 rw[Fj];generalize fn.results.toList=rs at d;have many:∀{l:ax},rs.length≠1->(sT cx σ rs).run=some l->∃b,(do
   let e <-rs.mapM (uK a.tmps)
   pure (if h:e.toArray.size=1 then e.toArray[0] else .tuple e.toArray):Sem Value).run P w=.ok b w/\bw γ σ.mem w (.pG l) .val [b]:=by
  intro l g m;obtain⟨c,n,o,p⟩:=x6 k h m;refine⟨.tuple c.toArray,?_,c.toArray,rfl,by simpa using p⟩;have:¬c.toArray.size=1:=by simp[n,g]
  simp only[Sem.run_bind,o,Result.andThen_ok,Sem.run_pure,dif_neg this]
 match rs,d with
 | [],d =>
   obtain⟨l,i,j⟩:=bind_some d;obtain rfl:=aq j;exact many (by simp) i
 | [r],d =>
   obtain⟨b,q,t⟩:=pN k h d;refine⟨b,?_,t⟩;simp only[Gp,List.mapM_nil,Sem.run_bind,q,Result.andThen_ok,Sem.run_pure];rfl
 | r::s::rs,d =>
   obtain⟨l,i,j⟩:=bind_some d;obtain rfl:=aq j;exact many (by simp) i
theorem uL{d:Nat->Option aS}(j:aO B γ d w){b:List ax}{c:Array Value}(h:gk γ d w b c.toList)(n:Nat) :
  b6 B (c.size+(n-c.size)) γ (uX d b) { tmps:=c++Array.replicate (n-c.size) undef,defers:=[] } w where
 slots:=λt=>by
  show bw γ d w ((b[t]?).getD .undef) .val [_]
  cases i:b[t]? with
  | none=>exact⟨_,rfl⟩
  | some v =>
    have e:t<c.size:=by
     have:=(sE.1 i).1;have g:=h.1;simp at g;omega
    have k:c[t]?=some c[t]:=Array.getElem?_eq_getElem e;have g:(c++Array.replicate (n-c.size) undef).getD t undef=c[t]:=by
     rw[Eo,Array.getElem?_append_left e,k];rfl
    dsimp only;rw[g];exact h.2 t v c[t] i (by simp[e])
 size:=by simp
 defers:=rfl
 ok:=j
noncomputable def Am(c:Ctx)(n d:Nat)(b:Nat->mc):Nat->List ax->St->Tree (ax×St) :=
 λg e σ=>(oy c n (r4 σ.mem ((d+g+1)*1000) (b g).AX) b g e σ.mem).bind λr=>.ret (r.1,{ σ with mem:=r.2 })
theorem x7{n h f:Nat}{b:Nat->mc}{d:List ax}{g:Nat->Option aS}{r:ax×(Nat->Option aS)}(e:(oy cx (n+1) h b f d g).run=some r) :
  ∃fn c,find cx.fns f=some fn/\fn.body=some c/\((wY cx h (b f) (Am cx n h b) fn c d g).run=some r\/∃R,(GA R d g<|wY cx h (b f) (Am cx n h b) fn c d).run=some r):=by
 unfold oy at e;split at e
 case h_2=>cases e
 rename_i fn i;split at e
 case h_2=>cases e
 rename_i c j;refine⟨fn,c,i,j,?_⟩;split at e
 .exact .inl e
 .exact .inr ⟨_,e⟩
theorem sr{h:Nat}{p:mc}{inl:Nat->List ax->St->Tree (ax×St)}{fn:Func}{c:Code}{b:List ax}{g:Nat->Option aS}{r:ax×(Nat->Option aS)}(i:(wY cx h p inl fn c b g).run=some r) :
  ∃e aB,(fi cx h p.AX inl c p.marks<|uX g b).run=some (e,aB)/\(e=0\/e=1)/\(results1 cx aB fn.results.toList).run=some r.1/\r.2=aB.mem:=by
 obtain⟨q,j,k⟩:=bind_some i;obtain⟨e,aB⟩:=q;obtain⟨d,l⟩:=ak k;obtain⟨v,m,n⟩:=bind_some l;obtain rfl:=aq n;refine⟨e,aB,j,?_,m,rfl⟩;simp only[wG] at d;rcases d with d|d
 .exact .inl (cG d)
 .exact .inr (cG d)
theorem Mh:∀{l:List Ty} {i t:Nat} {s:Sh},(t,s)∈Gz l i->∃u,s=.d u:=by
 intro l;induction l with
 | nil=>intro i t s h;cases h
 | cons a r b =>
   intro i t s h;rcases eR.1 h with h|h
   .obtain⟨rfl,rfl⟩:=b8 h;exact⟨a,rfl⟩
   .exact b h
theorem x8{R:Bool×List Ty}{d:List ax}{c:Nat->Option aS}{F:(Nat->Option aS)->Tree (ax×(Nat->Option aS))}{r:ax×(Nat->Option aS)}(e:(GA R d c F).run=some r) :
  ∃(k:Carry) (x:k.ty.den) (v:ax) (cm:Nat->Option aS),pt k (eJ c)/\(F (k.lock<|eJ c).mem).run=some (v,cm)/\k.out false (eJ c) (JK R.1 v cm)=some x/\CQ R.1 v R.2.length=true /\
   r=(A0 R.1 R.2.length (k.kU false false (List.range R.2.length) (eJ c) x).slots,(k.kU false false (List.range R.2.length) (eJ c) x).mem):=by
 unfold GA at e;split at e
 .cases e
 rename_i m j;obtain⟨x,l,n⟩:=HR e;obtain⟨q,o,g⟩:=bind_some l;obtain⟨p,g⟩:=ak g;refine⟨⟨Gz R.2 0,m,λ_ h=>h⟩,x,q.1,q.2,⟨λt s i=>?_,Kp j,λb x y=>(by cases y)⟩,o,x5 g,p,(aq n).symm⟩;obtain⟨u,rfl⟩:=Mh i;trivial
theorem Kr{γ:Gh}{mem:Nat->Option aS}{w:World}:∀{m:ax} {c:List Value},bw γ mem w m .many c->wX m=c.length/\∀(t:Nat) (u:ax),nth m t=some u->∃v,c[t]?=some v/\bw γ mem w u .val [v]:=by
 intro m;induction m with
 | mix a b _ e =>
   intro c h;obtain⟨v,r,rfl,g,i⟩:=h;obtain⟨j,k⟩:=e i;refine⟨by simp only[wX,gA,j],λt u d=>?_⟩;cases t with
   | zero=>obtain rfl:=aq d;exact⟨v,rfl,g⟩
   | succ t=>exact k t u d
 | nl=>intro c h;obtain rfl:c=[]:=h;exact⟨rfl,λt u d=>(by cases t<;>cases d)⟩
 | _=>intro c h;exact h.elim
theorem HT{γ:Gh}{mem:Nat->Option aS}{w:World}{slots:Nat->ax}:∀(b:List Value) (i:Nat),(∀(t:Nat) (v:Value),b[t]?=some v->bw γ mem w (slots<|i+t) .val [v])->bw γ mem w (NI slots i b.length) .many b:=by
 intro b;induction b with
 | nil=>intro i h;exact rfl
 | cons v r c =>
   intro i h;refine⟨v,r,rfl,h 0 v rfl,c (i+1) λt u d=>?_⟩;have:=h (t+1) u (by simpa using d)
   rwa [show i+(t+1)=i+1+t by omega] at this
theorem Fk{d:Nat->mc}:∀(n nb f:Nat) (g:List ax) (mem:Nat->Option aS) (r:ax×(Nat->Option aS)),(oy cx n nb d f g mem).run=some r->∀b i,mem b=some i->i.lk=true->r.2 b=some i:=by
 intro n;induction n with
 | zero=>intro nb f g mem r h;cases h
 | succ n o =>
   intro nb f g mem r h b i l m;obtain⟨p,c,A,C,j⟩:=x7 h;have body:∀{mem:Nat->Option aS} {r:ax×(Nat->Option aS)},(wY cx nb (d f) (Am cx n nb d) p c g mem).run=some r->∀b i,mem b=some i->i.lk=true->r.2 b=some i:=by
    intro mem r h b i l m;obtain⟨e,aB,j,D,E,s⟩:=sr h;have:=mW (λf g σ v aB t=>by
     obtain⟨q,u,y⟩:=bind_some (show((oy cx n (r4 σ.mem ((nb+f+1)*1000) (d f).AX) d f g σ.mem).bind λr=>.ret (r.1,{ σ with mem:=r.2 })).run=some (v,aB) from t);obtain⟨rfl,rfl⟩:=b8 (aq y);exact λb i l m=>o _ _ _ _ q u b i l m) c _ _ _ j
    rw[s];exact this b i l m
   rcases j with j|⟨R,j⟩
   .exact body j b i l m
   .obtain⟨k,x,v,cm,z,_,_,_,rfl⟩:=x8 j;exact qv (fz:=false) (lock:=false) (wr:=List.range R.2.length) (x:=x) z b i l m
theorem x9{c:Nat->mc}(n e:Nat):∀f d σ v aB,(Am cx n e c f d σ).run=some (v,aB)->aM σ aB:=by
 intro f d σ v aB g;obtain⟨q,h,i⟩:=bind_some (show((oy cx n (r4 σ.mem ((e+f+1)*1000) (c f).AX) c f d σ.mem).bind λr=>.ret (r.1,{ σ with mem:=r.2 })).run=some (v,aB) from g);obtain⟨rfl,rfl⟩:=b8 (aq i);exact λb j k l=>Fk _ _ _ _ _ q h b j k l
theorem qw(T:P.follows .mixedOrders=true)(hc:df P cx){G:eg}(U:jy P G cx)(W:Al cx){i:Nat->mc} :
  ∀(n nb f:Nat) (B:Own) (γ:Gh) (mem cm:Nat->Option aS) (w:World) (d:List ax) (C:Array Value) (v:ax),B.G=G->aO B γ mem w->gk γ mem w d C.toList->(oy cx n nb i f d mem).run=some (v,cm) ->
  (∃y X,P.funcs[f]?=some y/\(y.name == "runtime.NumGoroutine")=false/\y.body=some X) /\
  Calls P f C w λe w'=>∃g bc,e=.returned g/\aO B bc cm w'/\Ext B γ mem w bc cm w'/\bw bc cm w' v .val [g]:=by
 intro n;induction n with
 | zero=>intro nb f B γ mem cm w d C v _ _ _ h;cases h
 | succ n ih =>
   intro nb f B γ mem cm w d C v hG E Q h;subst hG;obtain⟨y,c,h1,h2,F⟩:=x7 h;have H:=W f y h1;simp only[DI,h2,cA,fO,tZ] at H;have hP:=hc.fns f y h1;refine⟨⟨y,c,hP,H.1,h2⟩,?_⟩;have Y:nE P B.G (Am cx n nb i):=by
    intro B' γ σ Z w f d C v hG E Q hi;obtain⟨q,g1,g2⟩:=bind_some (show((oy cx n (r4 σ.mem ((nb+f+1)*1000) (i f).AX) i f d σ.mem).bind λr=>.ret (r.1,{ σ with mem:=r.2 })).run=some (v,Z) from hi);obtain⟨rfl,rfl⟩:=b8 (aq g2);obtain⟨k1,k2⟩:=ih _ f B' γ σ.mem q.2 w d C q.1 hG E Q g1;exact⟨k1,rfl,k2⟩
   have body:∀{γ:Gh} {mem cm:Nat->Option aS} {v:ax},aO B γ mem w->gk γ mem w d C.toList->(wY cx nb (i f) (Am cx n nb i) y c d mem).run=some (v,cm) ->
     Calls P f C w λe w'=>∃g bc,e=.returned g/\aO B bc cm w'/\Ext B γ mem w bc cm w'/\bw bc cm w' v .val [g]:=by
    intro γ mem cm v E Q h;obtain⟨e,aB,F,h4,h5,h6⟩:=sr h;dsimp only at h5 h6;subst h6;refine calls_of_wp hP h2 ?_;refine lH (B:=B) T hc U Y (x9 _ _) c (λt z=>?_) F (uL E Q y.ntmps) λbc a' w' s x f=>?_
    .have:=H.2 t z;have:=rT (by simpa [Nat.blt] using this);omega
    .obtain⟨g,r1,r2⟩:=nX (fn:=y) hc s h5;have:a'.defers=[]/\∃S,(results y a'.tmps).run P w'=.ok S w'/\∃g bc,Ending.returned S=.returned g/\aO B bc aB.mem w'/\Ext B γ mem w bc aB.mem w'/\bw bc aB.mem w' v .val [g] :=
      ⟨s.defers,g,r1,g,bc,rfl,s.ok,x,r2⟩
     rcases h4 with rfl|rfl
     .exact this
     .exact this
   rcases F with F|⟨R,F⟩
   .exact body E Q F
   .obtain⟨k,x,S,j,hk,h4,h5,I,h6⟩:=x8 F;obtain⟨rfl,rfl⟩:=b8 h6;have J:(k.lock<|eJ mem).mem=mq (λb A=>bif mE k.M b then A.lk else true) mem:=tE k (eJ mem);have Te:aO B γ (k.lock<|eJ mem).mem w:=by rw[J];exact E.mq
    have NL:Ext B γ mem w γ (k.lock<|eJ mem).mem w:=by rw[J];exact Ext.mq
    have K:∀b A,(k.lock<|eJ mem).mem b=some A->A.lk=true->j b=some A:=by
     intro b A hb hl;obtain⟨e,aB,g3,_,_,g6⟩:=sr h4;have:=mW (λf d σ v aB hi=>x9 n nb f d σ v aB hi) c _ _ _ g3;rw[show j=aB.mem from g6];exact this b A hb hl
    refine(body Te (Q.ext NL) h4).mono λe w' hw=>?_;obtain⟨g,l,rfl,m1,x1,r1⟩:=hw;have fin:∀(n:Nat) (ts:Array Value),ts.size=n->n=R.2.length->(∀t,bw l j w' (spread R.1 S t) .val [ts.getD t undef]) ->
      (∀{o:Nat->Option aS} {sl:Nat->ax},(∀t,bw l o w' (sl t) .val [ts.getD t undef])->bw l o w' (A0 R.1 R.2.length sl) .val [g]) ->
      ∃D O,Ending.returned g=.returned D/\aO B O (k.kU false false (List.range R.2.length) (eJ mem) x).mem w'/\Ext B γ mem w O (k.kU false false (List.range R.2.length) (eJ mem) x).mem w' /\
       bw O (k.kU false false (List.range R.2.length) (eJ mem) x).mem w' (A0 R.1 R.2.length (k.kU false false (List.range R.2.length) (eJ mem) x).slots) .val [D]:=by
     intro n ts Tf hn hr hg;have s0:b6 B n γ (eJ mem) { tmps:=Array.replicate n undef,defers:=[] } w:=⟨λt=>⟨_,rfl⟩,by simp,rfl,E⟩;have s1:b6 B n l (JK R.1 S j) { tmps:=ts,defers:=[] } w':=⟨hr,Tf,rfl,m1⟩;obtain⟨s2,x2⟩:=jY (lock:=false) (wr:=List.range R.2.length) hk s0 s1 (NL.trans x1) (λt z=>by
      have z:¬t<n:=λQf=>by
       have QI:t∈List.range R.2.length:=CF.2 (by omega);have:bJ (List.range R.2.length) t=true:=tj.2 QI;rw[this] at z;cases z
      rw[I5<|by show ts.size<=t;omega,I5 (by simp;omega)]) (λb A hb HD=>⟨true,K b _ (by rw[J];simp only[mq,show mem b=some A from hb,HD,fk]) rfl⟩) h5
     exact⟨g,l,rfl,s2.ok,x2,hg s2.slots⟩
    obtain⟨pG,L⟩:=R;cases pG with
    | false =>
      have hL:L.length=1:=cG I;refine fin 1 #[g] rfl hL.symm (λt=>?_) (λh=>h 0);cases t with
      | zero=>exact r1
      | succ t=>exact⟨_,rfl⟩
    | true =>
      cases S with
      | pG m =>
        obtain⟨p,e1,r2⟩:=r1;obtain⟨q1,q2⟩:=Kr r2;have hL:wX m=L.length:=cG I;obtain rfl:g=.tuple p:=pY e1;have Nl:p.size=L.length:=by rw[<-hL,q1];simp
        refine fin L.length p Nl rfl (λt=>?_) (λ{o sl} h=>⟨p,rfl,?_⟩)
        .show bw l j w' (match nth m t with|some u=>u|none=>.undef) .val _
         cases z:nth m t with
         | none=>exact⟨_,rfl⟩
         | some u =>
           obtain⟨v,g1,g2⟩:=q2 t u z;dsimp only;rw[Eo,<-Jf,g1];exact g2
        .have:=HT (γ:=l) (mem:=o) (w:=w') (slots:=sl) p.toList 0 λt v z=>by
          have:=h t;rw[Eo,<-Jf,z] at this;rw[kL];exact this
         rwa [show p.toList.length=L.length by rw[<-Nl];simp] at this
      | _=>cases I
end
end Go.Ge
