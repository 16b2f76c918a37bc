/- A ghost interpreter of the model's code, and that it tells the truth: part 9. It says of a function of plain data what a call of it comes to. -/
import Derived.Test.YtpmecibilnjeiaaGreatDoorGeH
import Derived.Scope
import Derived.Laws.Sem
import Derived.ProofKit
set_option linter.unusedVariables false
set_option linter.unusedSimpArgs false
set_option linter.unusedSectionVars false
namespace Go.Ge
open RowKit
section
variable {P:Program} {B:qM} {N:Nat} {γ γ0:Gh} {w w0:World} {Bq vf:St} {a a0:Act} {M:Nat->Bool} {V:Nat->Bool->Bool}
theorem Z4:∀{l:List (Nat×Sh)} {x:(tyS l).den},abz V Bq vf l=some x->∀t,(Oq M V l x t=none/\∀s,(t,s)∉l)\/∃s y,(t,s)∈l/\Sh.out V Bq vf s (vf.slots t)=some y/\Oq M V l x t=some (s.qL M V y):=by
 intro l;induction l with
 | nil=>intro x _ t;exact .inl ⟨rfl,λs h=>by cases h⟩
 | cons p r g =>
   obtain⟨i,s⟩:=p;intro x h t;simp only[abz] at h;split at h
   .rename_i y z j k;obtain rfl:=aG h;by_cases e:t=i
    .subst e;refine .inr ⟨s,y,mJ ..,j,?_⟩;show(bif Nat.beq t t then some (s.qL M V y) else Oq M V r z t)=_
     simp
    .have m:Nat.beq t i=false:=iW e;have n:Oq M V ((i,s)::r) ((y,z):(tyS ((i,s)::r)).den) t=Oq M V r z t:=by
      show(bif Nat.beq t i then some (s.qL M V y) else Oq M V r z t)=_
      rw[m];rfl
     rw[n];rcases g k t with ⟨c,d⟩|⟨f,o,c,d,q⟩
     .refine .inl ⟨c,λf b=>?_⟩;rcases gd.1 b with b|b
      .exact e (bk b).1
      .exact d f b
     .exact .inr ⟨f,o,oh _ c,d,q⟩
   .cases h
theorem Ce{f g:Bool}{d b:bB}(h:F0 f g d b=true):(d.ro=true->(b.ro||f)=true)/\d.buf=b.buf/\(g=false->d.aM=b.aM):=by
 simp only[F0,dv,wJ,QA] at h;obtain⟨⟨⟨e,l⟩,i⟩,c⟩:=h;refine⟨λj=>by rcases e with e|e<;>simp[e,<-j],i,λk=>?_⟩;rcases c with c|c
 .rw[k] at c;cases c
 .exact eX c
theorem Xb{d e:Bool}{c b:bB}(h:F0 d e c b=true):c.tid=b.tid:=by
 simp only[F0,dv] at h;exact eX h.1.1.2
theorem Rq{c:Bool}:∀{l:List (Nat×Sh×bB)} {x:(tyM l).den},abA V c Bq vf l=some x->∀t,(IF c M V l x t=none/\uk l t=false) \/
  ∃s b y f,uk l t=true/\(t,s,b)∈l/\vf.mem t=some f/\F0 c (V t b.buf) f b=true/\Sh.out V Bq vf s f.val=some y/\IF c M V l x t=some { b with val:=s.qL M V y,ro:=b.ro||c,aM:=bif V t b.buf then b.aM+1 else b.aM }:=by
 intro l;induction l with
 | nil=>intro x _ t;exact .inl ⟨rfl,rfl⟩
 | cons p r o =>
   obtain⟨i,s,b⟩:=p;intro x h t;simp only[abA] at h;split at h
   .rename_i f g;cases d:F0 c (V i b.buf) f b with
    | false=>rw[d] at h;cases h
    | true =>
      rw[d] at h;simp only[ev] at h;split at h
      .rename_i y z q u;obtain rfl:=aG h;by_cases e:t=i
       .subst e;refine .inr ⟨s,b,y,f,by simp[uk],mJ ..,g,d,q,?_⟩;show(bif Nat.beq t t then some { b with val:=s.qL M V y,ro:=b.ro||c,aM:=bif V t b.buf then b.aM+1 else b.aM } else IF c M V r z t)=_
        simp
       .have n:Nat.beq t i=false:=iW e;have v:IF c M V ((i,s,b)::r) ((y,z):(tyM ((i,s,b)::r)).den) t=IF c M V r z t:=by
         show(bif Nat.beq t i then some { b with val:=s.qL M V y,ro:=b.ro||c,aM:=bif V t b.buf then b.aM+1 else b.aM } else IF c M V r z t)=_
         rw[n];rfl
        have j:uk ((i,s,b)::r) t=uk r t:=by simp only[uk,n,yA]
        rw[v,j];rcases o u t with k|⟨A,C,D,m,E,F,G⟩
        .exact .inl k
        .exact .inr ⟨A,C,D,m,E,oh _ F,G⟩
      .cases h
   .cases h
structure AG (k:Carry) (Bq:St):Prop where
 S:∀t s,(t,s)∈k.S->JA s (Bq.slots t)
 M:∀b s bx,(b,s,bx)∈k.M->Bq.mem b=some bx/\JA s bx.val/\bx.lk=false
 V:∀b x,k.V b false=true->Bq.mem b=some x->x.buf=false
theorem adV{o:Ctx}{j:St}:∀{p:List (Nat×Nat)} {l:List (Nat×Sh)},mkS o j p=some l->∀t s,(t,s)∈l->JA s (j.slots t):=by
 intro p;induction p with
 | nil=>intro l h t s c;obtain rfl:=aG h;cases c
 | cons q r n =>
   obtain⟨i,u⟩:=q;intro l h t s c;simp only[mkS] at h;split at h
   .cases h
   .rename_i x f;have fin:∀m,JA m (j.slots i)->some ((i,m)::x)=some l->JA s (j.slots t):=by
     intro m y e;obtain rfl:=aG e;rcases gd.1 c with c|c
     .obtain⟨rfl,rfl⟩:=bk c;exact y
     .exact n f t s c
    cases g:Nat.beq u 999999 with
    | true =>
      rw[g] at h;simp only[ev] at h;split at h
      .rename_i b v z;exact fin (.k _) z.symm h
      .obtain rfl:=aG h;exact n f t s c
    | false =>
    rw[g] at h;simp only[iU] at h;split at h
    .exact fin (.d _) trivial h
    .split at h
     .exact fin (.d _) trivial h
     .cases h
    .split at h
     .exact fin (.d _) trivial h
     .cases h
    .exact fin (.k _) rfl h
theorem Z5{j:St}:∀{p:List Nat} {l:List (Nat×Sh×bB)},mkM j p=some l->∀b s d,(b,s,d)∈l->j.mem b=some d/\JA s d.val/\d.lk=false:=by
 intro p;induction p with
 | nil=>intro l h b s d c;obtain rfl:=aG h;cases c
 | cons i r k =>
   intro l h b s d c;simp only[mkM] at h;split at h
   .rename_i f t m g;cases e:f.lk with
    | true=>rw[e] at h;cases h
    | false =>
      rw[e] at h;obtain rfl:=aG h;rcases gd.1 c with c|c
      .injection c with n c
       injection c with o q
       subst n;subst o;subst q;exact⟨m,abY _,e⟩
      .exact k g b s d c
   .cases h
theorem xT{e:Ctx}{f:Nat}{g:List Nat}{c:St}{p:CT}{k:Carry}(h:HZ e f g c p=some k):AG k c:=by
 unfold HZ at h;split at h
 .rename_i s m i j;obtain rfl:=aG h;refine⟨adV i,Z5 j,λb x d l=>?_⟩;simp only[iU,aeT,l,dv,j7] at d;exact d.2.1
 .cases h
theorem abZ{l:List (Nat×Sh×bB)}{b:Nat}(h:uk l b=true):∃s c,(b,s,c)∈l:=by
 induction l with
 | nil=>cases h
 | cons p r e =>
   obtain⟨i,s,c⟩:=p;simp only[uk,wJ] at h;rcases h with h|h
   .obtain rfl:=eX h;exact⟨s,c,mJ ..⟩
   .obtain⟨f,d,g⟩:=e h;exact⟨f,d,oh _ g⟩
theorem sr{k:Carry}{O lock:Bool}{wr:List Nat}{x:k.ty.den}(hk:AG k Bq)(h0:cM B N γ0 Bq a0 w0)(F:cM B N γ vf a w)(hx:Ext B γ0 Bq.mem w0 γ vf.mem w)
  (hf:∀t,cI wr t=false->a.tmps[t]?=a0.tmps[t]?) (A:∀b f,Bq.mem b=some f->uk k.M b=false->∃bl,vf.mem b=some { f with lk:=bl }) (ho:k.out O Bq vf=some x) :
  cM B N γ (k.qL O lock wr Bq x) a w/\Ext B γ0 Bq.mem w0 γ (k.qL O lock wr Bq x).mem w:=by
 unfold Carry.out at ho;split at ho
 case h_2=>cases ho
 rename_i xs xm hxs hxm;obtain rfl:=aG ho;generalize R:k.qL O lock wr Bq (xs,xm)=bC;have W:∀t,bC.slots t=match Oq (uk k.M) k.V k.S xs t with|some v=>v|none=>bif cI wr t then .undef else Bq.slots t:=λt=>by rw[<-R];rfl
 have T:∀b,bC.mem b=match IF O (uk k.M) k.V k.M xm b with|some f=>some f|none=>match Bq.mem b with|some f=>some { f with lk:=f.lk||lock }|none=>none:=λb=>by rw[<-R];rfl
 have C:∀b,uk k.M b=false->bC.mem b=match Bq.mem b with|some f=>some { f with lk:=f.lk||lock }|none=>none:=by
  intro b g;rw[T b];rcases Rq (M:=uk k.M) hxm b with ⟨q,_⟩|⟨s,b',y,f,q,_⟩
  .rw[q]
  .rw[g] at q;cases q
 have here:∀b,uk k.M b=true->∃s m y f,Bq.mem b=some m/\JA s m.val/\vf.mem b=some f/\F0 O (k.V b m.buf) f m=true/\Sh.out k.V Bq vf s f.val=some y /\
   bC.mem b=some { m with val:=s.qL (uk k.M) k.V y,ro:=m.ro||O,aM:=bif k.V b m.buf then m.aM+1 else m.aM }:=by
  intro b g;rcases Rq (M:=uk k.M) hxm b with ⟨_,q⟩|⟨s,m,y,f,q,q1,q2,q3,q4,q5⟩
  .rw[g] at q;cases q
  .obtain⟨X,k2,_⟩:=hk.M b s m q1;exact⟨s,m,y,f,X,k2,q2,q3,q4,by rw[T b,q5]⟩
 have D:∀b f,vf.mem b=some f->f.buf=true->∃e l,f.val=.data (.slice e) l:=by
  intro b f g J;have:=F.ok.boxes b f g;rw[cB,J] at this;obtain⟨e,l,q,_⟩:=this;exact⟨e,l,q⟩
 have hC:Z1 (uk k.M) k.V Bq.mem vf.mem bC.mem:=by
  intro b d g;cases i:uk k.M b with
  | false =>
    obtain⟨bl,E⟩:=A b d g i;have r:=C b i;rw[g] at r;exact⟨_,_,E,r,rfl,rfl,rfl,by simp,λ_=>rfl⟩
  | true =>
    obtain⟨s,m,y,f,Y,g2,U,g4,g5,Z⟩:=here b i;rw[g] at Y;obtain rfl:=aG Y;obtain⟨o1,o2,o3⟩:=Ce g4;obtain⟨r1,r2⟩:=VN (M:=uk k.M) (V:=k.V) (Nn:={ d with val:=s.qL (uk k.M) k.V y,ro:=d.ro||O,aM:=bif k.V b d.buf then d.aM+1 else d.aM }) g5 rfl o2.symm (D b f U);refine⟨f,_,U,Z,o2,rfl,r1,by simp,λG=>o3 ?_⟩;simpa using G
 have hE:Ext B γ0 Bq.mem w0 γ bC.mem w :=
  { below:=hx.below
    I:=hx.I
    ox:=hx.ox
    cells:=hx.cells
    boxes:=λb d g=>by
     obtain⟨Q,Nn,c1,c2,c3,c4,c5,c6,c7⟩:=hC b d g;obtain⟨aj5,e1,e2,e3⟩:=hx.boxes b d g;rw[c1] at e1;obtain rfl:=aG e1;cases G:(uk k.M b&&k.V b d.buf) with
     | true =>
       rw[G] at c6;simp only[ev] at c6;exact⟨Nn,c2,by omega,λe=>absurd e (by omega)⟩
     | false =>
       rw[G] at c6;simp only[iU] at c6;obtain⟨r1,r2,r3⟩:=e3 (c7 G);exact⟨Nn,c2,by omega,λ_=>⟨r1,c4,c5.trans r3⟩⟩ }
 refine⟨⟨λt=>?_,F.size,F.defers,?_⟩,hE⟩
 .rw[W t];rcases Z4 (M:=uk k.M) hxs t with ⟨q,_⟩|⟨s,y,q1,q2,q3⟩
  .rw[q];simp only;cases hw:cI wr t with
   | true=>exact⟨_,rfl⟩
   | false =>
     have:a.tmps.getD t undef=a0.tmps.getD t undef:=by simp only[Ti,hf t hw]
     rw[this];exact(h0.slots t).ext hE
  .rw[q3];exact VM hC hk.V (hk.S t s q1) q2 (h0.slots t) (F.slots t)
 .have Z6:∀b,bC.mem b≠none->∃d,Bq.mem b=some d:=by
   intro b g;cases i:uk k.M b with
   | true=>obtain⟨s,m,y,f,Y,_⟩:=here b i;exact⟨m,Y⟩
   | false =>
     rw[C b i] at g;cases G:Bq.mem b with
     | none=>rw[G] at g;exact absurd rfl g
     | some d=>exact⟨d,rfl⟩
  have K:∀b,bC.mem b≠none->vf.mem b≠none:=by
   intro b g;obtain⟨d,r⟩:=Z6 b g;obtain⟨Q,Nn,c1,_⟩:=hC b d r;rw[c1];simp
  exact
   { cT:=F.ok.cT
     base:=F.ok.base
     boxes:=λb Nn g=>by
      cases i:uk k.M b with
      | true =>
        obtain⟨s,m,y,f,Y,g2,U,g4,g5,Z⟩:=here b i;rw[g] at Z;obtain rfl:=aG Z;obtain⟨o1,o2,o3⟩:=Ce g4;have o4:=Xb g4;obtain⟨r1,r2⟩:=VN (M:=uk k.M) (V:=k.V) (Nn:={ m with val:=s.qL (uk k.M) k.V y,ro:=m.ro||O,aM:=bif k.V b m.buf then m.aM+1 else m.aM }) g5 rfl o2.symm (D b f U);have j:=F.ok.boxes b f U;have o:=h0.ok.boxes b m Y;unfold cB at j o⊢;dsimp only at r2⊢;rcases ada f.buf with p|p
        .rw[p] at j;rw[<-o2,p,r2 p,<-o4];exact j
        .rw[p] at j;rw[<-o2,p];rw[<-o2,p] at o;obtain⟨_,_,_,_,_,_,_,_,_,z⟩:=o;obtain⟨u,cap,cur,tid,fr,z1,z2,z3,L,z4⟩:=j;exact⟨u,cap,cur,tid,fr,z1,z2,z3,o4▸L,VM hC hk.V g2 g5 z z4⟩
      | false =>
        have r:=C b i;rw[g] at r;cases G:Bq.mem b with
        | none=>rw[G] at r;cases r
        | some d =>
          rw[G] at r;obtain rfl:=aG r;obtain⟨bl,E⟩:=A b d G i;have j:=F.ok.boxes b _ E;have o:=h0.ok.boxes b d G;unfold cB at j o⊢;dsimp only at j⊢;rcases ada d.buf with p|p
          .rw[p] at j⊢;exact j
          .rw[p] at j o⊢;obtain⟨_,_,_,_,_,_,_,_,_,z⟩:=o;obtain⟨u,cap,cur,tid,fr,z1,z2,z3,L,z4⟩:=j;exact⟨u,cap,cur,tid,fr,z1,z2,z3,L,cf.down hC.mid z z4⟩
     inj:=λb c u X k2 g hc r h2=>F.ok.inj b c u X k2 (K b g) (K c hc) r h2
     fresh:=λb u X g r=>F.ok.fresh b u X (K b g) r
     sg:=F.ok.sg
     sep:=λb Nn u X off g r hi=>by
      obtain⟨d,q0⟩:=Z6 b (by rw[g];simp);obtain⟨Q,aj6,c1,c2,c3,c4,c5,c6,c7⟩:=hC b d q0;rw[g] at c2;obtain rfl:=aG c2;obtain⟨s1,s2⟩:=F.ok.sep b Q u X off c1 r hi;have hro:Q.ro=true->Nn.ro=true:=by
       cases i:uk k.M b with
       | true =>
         obtain⟨s,m,y,f,Y,g2,U,g4,g5,Z⟩:=here b i;rw[c1] at U;obtain rfl:=aG U;rw[g] at Z;obtain rfl:=aG Z;exact(Ce g4).1
       | false =>
         have r:=C b i;rw[g,q0] at r;obtain rfl:=aG r;obtain⟨bl,E⟩:=A b d q0 i;rw[c1] at E;obtain rfl:=aG E;exact λh=>h
      exact⟨hro s1,λJ e n hr=>s2 (by rw[c3,<-c4];exact J) e n (by rw[<-c5];exact hr)⟩ }
end
end Go.Ge
namespace Go.Ge
variable [Lp]
open RowKit
theorem Dr{p:Nat->Prop}(h:∃n,p n):∃n,p n/\∀m,p m->n<=m:=by
 obtain⟨n,c⟩:=h;induction n using Nat.strongRecOn with
 | _ n d =>
   by_cases h:∃m,m<n/\p m
   .obtain⟨m,e,f⟩:=h;exact d m e f
   .exact⟨n,c,λm g=>Nat.le_of_not_lt λb=>h ⟨m,b,g⟩⟩
open Classical in
noncomputable def least(p:Nat->Prop):Nat:=if h:∃n,p n then Classical.choose (Dr h) else 0
theorem JB{p:Nat->Prop}(h:∃n,p n):p (least p)/\∀m,p m->least p<=m:=by
 unfold least;rw[dif_pos h];exact Li (Dr h)
theorem E7{P:Program}{c:Code}{Q:Exit->Act->World->Prop}{a:Act}{w:World}(I:Nat->Act->World->Prop){n:Nat}(i:I n a w)
  (b:∀n a w,I n a w->c.wp P (Exit.then (λf w'=>∃m,m<n/\I m f w') Q) a w):(Code.loop c).wp P Q a w:=by
 refine wp_loop (λa w=>∃n,I n a w) (λa w=>least λn=>I n a w) ⟨n,i⟩ λa w h=>?_;obtain⟨j,k⟩:=JB h;refine wp_mono (b _ a w j) λe f w' g=>?_;cases e with
 | normal =>
   obtain⟨m,m1,d⟩:=g;exact⟨⟨m,d⟩,Nat.lt_of_le_of_lt ((JB ⟨m,d⟩).2 m d) m1⟩
 | _=>exact g
def JC:Nat->Exit
 | 0=>.normal
 | 1=>.ret
 | i+2=>.exit i
theorem Gi{l m:List Nat}{t:Nat}:cI (l++m) t=(cI l t||cI m t):=by
 induction l with
 | nil=>rfl
 | cons i r b=>simp only[y8,cI,b,Vx]
def Ds(b:List Nat)(a c:Act):Prop:=∀t,cI b t=false->c.tmps[t]?=a.tmps[t]?
theorem Ds.refl(b:List Nat)(a:Act):Ds b a a:=λ_ _=>rfl
theorem Ds.trans{d:List Nat}{a b c:Act}(h:Ds d a b)(k:Ds d b c):Ds d a c:=λt e=>(k t e).trans (h t e)
theorem Ds.left{c e:List Nat}{a b:Act}(h:Ds c a b):Ds (c++e) a b:=λt d=>h t (by rw[Gi,vW] at d;exact d.1)
theorem Ds.right{e c:List Nat}{a b:Act}(h:Ds c a b):Ds (e++c) a b:=λt d=>h t (by rw[Gi,vW] at d;exact d.2)
theorem Rr{t:Nat}:∀{l:List Oper} {k:Nat},cI (p4 l) t=false->nI t (number k l)=false:=by
 intro l;induction l with
 | nil=>intro k _;rfl
 | cons o l b =>
   intro k h;simp only[number,nI];cases hd:o.dst with
   | none=>simp only[p4,hd] at h;rw[b h];rfl
   | some d =>
     simp only[p4,hd,cI,vW] at h;rw[b h.2];simp only[Qx];exact iW λe=>by subst e;simp at h
theorem Pd{l:List Oper}{o:Oper}(h:o∈l){k:Nat}(c:o.dst=some k):k∈p4 l:=by
 induction l with
 | nil=>cases h
 | cons p l b =>
   rcases gd.1 h with h|h
   .subst h;simp only[p4,c];exact mJ ..
   .simp only[p4];split
    .exact oh _ (b h)
    .exact b h
theorem Np{l:Type}{f:Nat->Tree l}:∀{es:List Nat} {e i:Nat},GP es e=some i->(CV es i f).run=(f e).run:=by
 intro es;induction es with
 | nil=>intro e i h;cases h
 | cons k r n =>
   intro e i h;simp only[GP] at h;have one:∀{b:Bool},(bif b then some 0 else(GP r e).map (·+1))=some i->(b=true/\i=0)\/(b=false/\∃j,GP r e=some j/\i=j+1):=by
    intro b g;cases b with
    | true=>exact .inl ⟨rfl,(aG g).symm⟩
    | false =>
      obtain⟨j,c,d⟩:=r9.1 g;exact .inr ⟨rfl,j,c,d.symm⟩
   rcases one h with ⟨c,rfl⟩|⟨c,j,d,rfl⟩
   .obtain rfl:=eX c;cases r with
    | nil=>rfl
    | cons m s=>rfl
   .cases r with
    | nil=>cases d
    | cons m s=>exact n d
section
variable {P:Program} {B:qM} {N:Nat} {cx:Ctx} {nb:Nat} {bf:List Nat} {inl:Nat->List aL->St->Tree (aL×St)}
theorem T6(b:∀f c σ v bb,(inl f c σ).run=some (v,bb)->bj σ bb):∀(l:List Oper) (k:Nat) (done:List zn) (σ bb:St),(IE cx nb bf inl (number k l) done σ).run=some bb->bj σ bb:=by
 intro l;induction l with
 | nil=>intro k done σ bb h;obtain rfl:=aG h;exact bj.refl _
 | cons o l d =>
   intro k done σ bb h;simp only[number,IE] at h;split at h
   .cases h
   .obtain⟨m,e⟩:=ay h;obtain⟨bC,g,i⟩:=bind_some e;exact(zA b bC<|AE (λj=>H5 o σ j) g).trans (d _ _ _ _ i)
theorem Xc{c:Bool}{M:Nat->Bool}{V:Nat->Bool->Bool}:∀{l:List (Nat×Sh×bB)} {x:(tyM l).den} {t:Nat},uk l t=false->IF c M V l x t=none:=by
 intro l;induction l with
 | nil=>intro x t _;rfl
 | cons p r d =>
   obtain⟨i,s,b⟩:=p;intro x t h;simp only[uk,vW] at h;simp only[IF,h.1,iU];exact d h.2
theorem Rs{k:Carry}{e lock:Bool}{wr:List Nat}{d:St}{x:k.ty.den}{b:Nat}{c:bB}(f:d.mem b=some c)(h:uk k.M b=false):(k.qL e lock wr d x).mem b=some { c with lk:=c.lk||lock }:=by
 simp only[Carry.qL];rw[Xc h,f]
theorem zE{k:Carry}{fz lock:Bool}{wr:List Nat}{c:St}{x:k.ty.den}(h:AG k c):bj c (k.qL fz lock wr c x):=by
 intro b i e d;have:uk k.M b=false:=by
  cases j:uk k.M b with
  | false=>rfl
  | true =>
    obtain⟨s,l,m⟩:=abZ j;obtain⟨f,_,g⟩:=h.M b s l m;rw[e] at f;obtain rfl:=aG f;rw[d] at g;cases g
 rw[Rs e this];cases i;simp only at d;subst d;rfl
theorem Gj{b:Type}{Q:b->Prop}{f:Nat->Tree b}(c:∀e y,(f e).run=some y->Q y):∀{es:List Nat} {i:Nat} {y:b},(CV es i f).run=some y->Q y:=by
 intro es;induction es with
 | nil=>intro i y h;cases h
 | cons k r g =>
   intro i y h;cases r with
   | nil=>exact c k y h
   | cons m s =>
     have:=gg h;cases d:du i 0 with
     | true=>rw[d] at this;exact c k y this
     | false=>rw[d] at this;exact g this
theorem JD:∀{l:List Nat} {σ bb:St},CU l σ=some bb->bj σ bb:=by
 intro l;induction l with
 | nil=>intro σ bb h;obtain rfl:=aG h;exact bj.refl _
 | cons m r b =>
   intro σ bb h;unfold CU at h;cases c:Nat.ble 2000000 m with
   | false=>rw[c] at h;exact b h
   | true =>
     rw[c] at h;simp only[ev] at h;split at h
     .split at h
      .split at h
       .split at h
        .rename_i d;exact(pE d).trans ((bj.put _ _ _).trans<|b h)
        .cases h
       .cases h
      .cases h
     .exact b h
theorem Gk{B:qM}{N:Nat}{a:Act}{w:World}:∀{l:List Nat} {σ bb:St} {γ:Gh},CU l σ=some bb->cM B N γ σ a w->∃bM,cM B N bM bb a w/\Ext B γ σ.mem w bM bb.mem w:=by
 intro l;induction l with
 | nil=>intro σ bb γ h b;obtain rfl:=aG h;exact⟨γ,b,Ext.refl _ _ _ _⟩
 | cons m r d =>
   intro σ bb γ h b;unfold CU at h;cases g:Nat.ble 2000000 m with
   | false=>rw[g] at h;exact d h b
   | true =>
     rw[g] at h;simp only[ev] at h;generalize m-2000000=k at h;split at h
     .split at h
      .split at h
       .split at h
        .rename_i x bC i;have hv:=b.slots k;obtain⟨e,c,j,n⟩:=mS b hv i;have o:cM B N e (bC.put k<|.data (.slice _) x) a w:=⟨λt=>by
          unfold St.put;dsimp only;cases p:Nat.beq t k with
          | false=>exact c.slots t
          | true =>
            obtain rfl:=eX p;exact n,c.size,c.defers,c.ok⟩
         obtain⟨f,q,s⟩:=d h o;exact⟨f,q,j.trans s⟩
        .cases h
       .cases h
      .cases h
     .exact d h b
theorem T7{f:St->Tree (Nat×St)}(e:∀σ r,(f σ).run=some r->bj σ r.2):∀(n:Nat) (σ:St) (r:Nat×St),(again f n σ).run=some r->bj σ r.2:=by
 intro n;induction n with
 | zero=>intro σ r h;cases h
 | succ n g =>
   intro σ r h;obtain⟨i,j,b⟩:=bind_some h;have c:=e _ _ j;cases d:Nat.beq i.1 0 with
   | true=>rw[d] at b;exact c.trans (g _ _ b)
   | false=>rw[d] at b;obtain rfl:=aG b;exact c
theorem Rt{f:St->Tree (Nat×St)}(g:∀σ r,(f σ).run=some r->bj σ r.2){c:Nat}:∀(n j:Nat) (σ:St) (r:Nat×St),(EM f c n j σ).run=some r->bj σ r.2:=by
 intro n;induction n with
 | zero=>intro j σ r h;cases h
 | succ n i =>
   intro j σ r h;unfold EM at h;split at h
   .have h:=cl h;obtain⟨k,l,b⟩:=bind_some h.2;have d:=(bj.put σ c _).trans (g _ _ l);cases e:Nat.beq k.1 0 with
    | true=>rw[e] at b;exact d.trans (i _ _ _ b)
    | false=>rw[e] at b;obtain rfl:=aG b;exact d
   .cases h
theorem uC(g:∀f u σ v bb,(inl f u σ).run=some (v,bb)->bj σ bb):∀(c:Code) (pl:List (Option CT)) (σ:St) (r:Nat×St),(iS cx nb bf inl c pl σ).run=some r->bj σ r.2:=by
 intro c;induction c with
 | skip=>intro pl σ r h;obtain rfl:=aG h;exact bj.refl _
 | label l=>intro pl σ r h;obtain rfl:=aG h;exact bj.refl _
 | ret=>intro pl σ r h;obtain rfl:=aG h;exact bj.refl _
 | exit i=>intro pl σ r h;obtain rfl:=aG h;exact bj.refl _
 | region id ops J =>
   intro pl σ r h;obtain⟨bC,p,d⟩:=bind_some h;obtain rfl:=aG d;cases J with
   | true =>
     have j:(wW cx nb bf inl ops σ).run=some bC:=p;unfold wW at j;cases E:ops.any λo=>o.guard.isSome with
     | true =>
       rw[E] at j;obtain⟨K,L⟩:=ay (show(bif kU ops.toList then tc cx nb bf inl ops (number 0 ops.toList) [] σ (λ_=>false) else .fail).run=some bC from j);exact T2 g _ _ _ _ _ _ L
     | false =>
       rw[E] at j;exact T6 g _ _ _ _ _ j
   | false=>exact Dm g _ _ _ _ p
 | seq a b q s =>
   intro pl σ r h;obtain⟨z,p,d⟩:=bind_some h;have F:=q _ _ _ p;cases G:Nat.beq z.1 0 with
   | true=>rw[G] at d;exact F.trans (s _ _ _ d)
   | false=>rw[G] at d;obtain rfl:=aG d;exact F
 | block i a t =>
   intro pl σ r h;obtain⟨z,p,d⟩:=bind_some h;obtain rfl:=aG d;exact t _ _ z p
 | scope a t=>intro pl σ r h;exact t _ _ _ h
 | cond c a b q s =>
   intro pl σ r h;unfold iS at h;split at h
   .rename_i I O R;change Bool at I;have:=gg h;cases I with
    | false=>exact s _ _ _ this
    | true=>exact q _ _ _ this
   .split at h
    .cases h
    rename_i σ m;refine(JD m).trans ?_;split at h
    .cases h
    .rename_i k A;have n:=xT A;dsimp only at h;split at h
     .rw[Tree.zi] at h;obtain⟨x,p,d⟩:=A7.1 h;obtain rfl:=aG d;exact zE n
     .rw[Tree.zi] at h;obtain⟨x,p,d⟩:=A7.1 h;exact Gj (Q:=λr:Nat×St=>bj σ r.2) (λe y C=>by obtain rfl:=aG C;exact zE n) d
   .cases h
 | loop a t =>
   intro pl σ r h;unfold iS at h;split at h
   .split at h
    .exact Rt (λσ r D=>t _ _ _ D) _ _ _ _ h
    split at h
    .cases h
    rename_i σ m;refine(JD m).trans ?_;split at h
    .cases h
    .rename_i k A;have n:=xT A;dsimp only at h;split at h
     .cases h
     .split at h
      .obtain⟨x,p,d⟩:=bY h;obtain rfl:=aG d;exact zE n
      .obtain⟨x,p,d⟩:=bY h;exact Gj (Q:=λr:Nat×St=>bj σ r.2) (λe y C=>by obtain rfl:=aG C;exact zE n) d
   .exact T7 (λσ r D=>t _ _ _ D) _ _ _ h
   .cases h
 | _=>intro pl σ r h;cases h
end
end Go.Ge
namespace Go.Ge
variable [Lp]
open RowKit
section
variable {P:Program} {B:qM} {N:Nat} {cx:Ctx} {nb:Nat} {bf:List Nat} {inl:Nat->List aL->St->Tree (aL×St)}
theorem Dt(k:Carry)(c:St):(k.lock c).mem=tz (λb d=>bif uk k.M b then d.lk else true) c.mem:=by
 funext b;simp only[Carry.lock,tz];cases c.mem b with
 | none=>rfl
 | some d=>simp only;cases uk k.M b<;>rfl
theorem ab0(k:Carry)(c:St):k.lock c={ c with mem:=tz (λb d=>bif uk k.M b then d.lk else true) c.mem }:=by
 have:=Dt k c;unfold Carry.lock at this⊢;dsimp only at this⊢;rw[this]
theorem E8{T b:Type}{t:Tree T}{k:T->Tree b}{y:b}(h:(t.join k).run=some y):∃x,t.run=some x/\(k x).run=some y:=by
 rw[Tree.zi] at h;exact A7.1 h
theorem JE{b:Type}{o:Option b}{y:b}(h:(Tree.Zm o).run=some y):o=some y:=by
 cases o with
 | none=>cases h
 | some x=>exact h
theorem Z7{b e i:Nat}(h:GP [b] e=some i):e=b:=by
 simp only[GP] at h;cases c:Nat.beq b e with
 | true=>exact(eX c).symm
 | false=>rw[c] at h;cases h
theorem cM.VO{c:Gh}{b:St}{a:Act}{w:World}(h:cM B N c b a w){i:Nat}{v:aL}(d:cf c b.mem w v .val [a.tmps.getD i Go.undef]):cM B N c (b.put i v) a w where
 slots:=λt=>by
  show cf c b.mem w (bif Nat.beq t i then v else b.slots t) .val _
  cases e:Nat.beq t i with
  | true=>obtain rfl:=eX e;exact d
  | false=>exact h.slots t
 size:=h.size
 defers:=h.defers
 ok:=h.ok
theorem Pe{a:Act}{w:World}:∀{l:List (Nat×Sh)} {σ bb:St} {γ:Gh},settle l σ=some bb->cM B N γ σ a w->∃bM,cM B N bM bb a w/\Ext B γ σ.mem w bM bb.mem w/\bj σ bb:=by
 intro l;induction l with
 | nil=>intro σ bb γ h c;obtain rfl:=aG h;exact⟨γ,c,Ext.refl _ _ _ _,bj.refl _⟩
 | cons p r e =>
   obtain⟨i,s⟩:=p;intro σ bb γ h c;cases s with
   | d t =>
     simp only[settle] at h;split at h
     .rename_i x bC j;obtain⟨f,n,o,q⟩:=mS c (c.slots i) j;have s3:cM B N f (bC.put i<|.data t x) a w:=n.VO q;obtain⟨g,u,y,z⟩:=e h s3;exact⟨g,u,o.trans y,(pE j).trans z⟩
     .cases h
   | k v=>exact e h c
   | m a b=>exact e h c
theorem Du{k:Carry}{j:Bool}{wr:List Nat}{x:k.ty.den}{c e:St}{f l:Gh}{a p:Act}{w m:World}(q:AG k c)(r:cM B N f c p m)(s:cM B N l e a w)(u:Ext B f c.mem m l e.mem w)
  (v:∀t,cI wr t=false->a.tmps[t]?=p.tmps[t]?) (d:∀b h,c.mem b=some h->uk k.M b=false->e.mem b=some { h with lk:=true }) (i:k.IG j c e=some x) :
  ∃bM,cM B N bM (k.qL j false wr c x) a w/\Ext B f c.mem m bM (k.qL j false wr c x).mem w:=by
 unfold Carry.IG at i;cases j with
 | false=>exact⟨l,sr q r s u v (λb h n g=>⟨true,d b h n g⟩) i⟩
 | true =>
   simp only[ev] at i;split at i
   .rename_i bC y;obtain⟨o,z,A,C⟩:=Pe y s;exact⟨o,sr q r z (u.trans A) v (λb h n g=>⟨true,C b _ (d b h n g) rfl⟩) i⟩
   .cases i
noncomputable def roundOf(d:Ctx)(e:Nat)(f:List Nat)(inl:Nat->List aL->St->Tree (aL×St))(k:Carry)(g:Bool)(b:St)(c:Code)(h:List (Option CT))(x:k.ty.den):Option (k.ty.den⊕(Nat×k.ty.den)) :=
 ((iS d e f inl c h<|k.qL false true (writes c) b x).bind λr=>bif Nat.beq r.1 0 then(match k.out false b r.2 with
   | some y=>.ret (.inl y)
   | none=>.fail)
  else match GP (te c) r.1,k.IG g b r.2 with
   | some i,some y=>.ret (.inr (i,y))
   | _,_=>.fail).run
theorem Nq{c:Code}{k:Carry}{fz:Bool}{d:St}{E:Gh}{a:Act}{w:World}{Q:Exit->Act->World->Prop}{R:Type}(F:AG k d)(h:cM B N E d a w){G:k.ty.den}(I:k.out false d d=some G)
  (f:k.ty.den->Option (k.ty.den⊕R)) (u:R->Nat->k.ty.den->Prop) {z:R} (hL:Loop f G=some z)
  (hf:∀x r,f x=some r->∃e y,(match r with|.inl J=>e=0/\J=y|.inr z=>e≠0/\u z e y) /\
   ∀l v w1 (Q':Exit->Act->World->Prop),cM B N l (k.qL false true (writes c) d x) v w1->(∀vf bM g w',(bif Nat.beq e 0 then k.out false d vf else k.IG fz d vf)=some y->bj (k.qL false true (writes c) d x) vf->cM B N bM vf g w'->Ext B l (k.qL false true (writes c) d x).mem w1 bM vf.mem w'->Ds (writes c) v g->Q' (JC e) g w') ->
    c.wp P Q' v w1)
  (p:∀e y,e≠0->u z e y->∀bM g w',cM B N bM (k.qL fz false (writes c) d y) g w'->Ext B E d.mem w bM (k.qL fz false (writes c) d y).mem w'->Ds (writes c) a g->Q (JC e) g w') :
  (Code.loop c).wp P Q a w:=by
 obtain⟨n,hn⟩:=pZ hL;refine E7 (λm g w'=>∃bM x,cM B N bM (k.qL false true (writes c) d x) g w'/\Ext B E d.mem w bM (k.qL false true (writes c) d x).mem w'/\Ds (writes c) a g/\rounds f m x=some z) (n:=n) ?_ ?_
 .obtain⟨s,x⟩:=sr (lock:=true) (wr:=writes c) F h h (Ext.refl _ _ _ _) (λ_ _=>rfl) (λb q A _=>⟨q.lk,A⟩) I;exact⟨E,G,s,x,Ds.refl _ _,hn⟩
 .intro m v w1 hI;obtain⟨l,x,s1,e1,f1,K⟩:=hI;cases m with
  | zero=>cases K
  | succ m =>
    simp only[rounds] at K;obtain⟨r,L,C⟩:=A7.1 K;obtain⟨e,y,Z,O⟩:=hf x r L;refine O l v w1 _ s1 λvf bM g w' S T s2 e2 f2=>?_;have hx:=e1.trans e2;have o:=f1.trans f2;have j:∀b q,d.mem b=some q->uk k.M b=false->vf.mem b=some { q with lk:=true }:=λb q A t=>by
     have:=T b _ (Rs A t) (by simp);simpa using this
    cases r with
    | inl J =>
      obtain⟨rfl,rfl⟩:=Z;obtain⟨U,W⟩:=sr (lock:=true) (wr:=writes c) F h s2 hx o (λb q A t=>⟨true,j b q A t⟩) S;exact⟨m,Qq m,bM,J,U,W,o,C⟩
    | inr z' =>
      obtain⟨D,hO⟩:=Z;obtain rfl:=aG C;have X:Nat.beq e 0=false:=iW D;rw[X] at S;obtain⟨Y,U,W⟩:=Du (wr:=writes c) F h s2 hx o j S;have:=p e y D hO Y g w' U W o
      match e,D,this with
      | 0,D,_=>exact absurd rfl D
      | 1,_,this=>exact this
      | i+2,_,this=>exact this
theorem Xd{S:Type}{o:Option (S⊕(Nat×S))}{r:S⊕S}(h:dK o=some r):(∃y,r=.inl y/\o=some (.inl y))\/∃i y,r=.inr y/\o=some (.inr (i,y)):=by
 unfold dK at h;obtain⟨q,b,c⟩:=r9.1 h;cases q with
 | inl y=>exact .inl ⟨y,c.symm,b⟩
 | inr p=>exact .inr ⟨p.1,p.2,c.symm,b⟩
theorem ss(adW:P.follows .mixedOrders=true)(hc:fv P cx)(W0:pC P B.G cx)(abR:vn P B.G inl)(J:∀f adT σ v bb,(inl f adT σ).run=some (v,bb)->bj σ bb) :
  ∀(c:Code) {pl:List (Option CT)} {σ:St} {γ:Gh} {a:Act} {w:World} {e:Nat} {bb:St} {Q:Exit->Act->World->Prop},(∀t∈writes c,t<N)->(iS cx nb bf inl c pl σ).run=some (e,bb)->cM B N γ σ a w ->
   (∀bM d w',cM B N bM bb d w'->Ext B γ σ.mem w bM bb.mem w'->Ds (writes c) a d->Q (JC e) d w')->c.wp P Q a w:=by
 intro c;induction c with
 | skip =>
   intro pl σ γ a w e bb Q I g h u;obtain⟨rfl,rfl⟩:=bk (aG g);exact wp_skip (u γ a w h (Ext.refl _ _ _ _)<|Ds.refl _ _)
 | label l =>
   intro pl σ γ a w e bb Q I g h u;obtain⟨rfl,rfl⟩:=bk (aG g);exact wp_label (u γ a w h (Ext.refl _ _ _ _)<|Ds.refl _ _)
 | ret =>
   intro pl σ γ a w e bb Q I g h u;obtain⟨rfl,rfl⟩:=bk (aG g);exact wp_ret (u γ a w h (Ext.refl _ _ _ _)<|Ds.refl _ _)
 | exit i =>
   intro pl σ γ a w e bb Q I g h u;obtain⟨rfl,rfl⟩:=bk (aG g);exact wp_exit (u γ a w h (Ext.refl _ _ _ _)<|Ds.refl _ _)
 | region id ops dr =>
   intro pl σ γ a w e bb Q I g h u;obtain⟨bC,T,R⟩:=bind_some g;obtain⟨rfl,rfl⟩:=bk (aG R);have hd':∀o∈ops.toList,∀k,o.dst=some k->k<N:=λo ho k hk=>I k (Pd ho hk);have hfr:∀{a d:Act},Fr (number 0 ops.toList) a d->Ds (writes<|.region id ops dr) a d:=λhf t ht=>hf t (Rr ht);cases dr with
   | true=>exact Rn adW hc W0 abR hd' T h λbM d w' s x f=>u bM d w' s x (hfr f)
   | false=>exact OY hc W0 abR J hd' T h λbM d w' s x f=>u bM d w' s x (hfr f)
 | seq x y ihx ihy =>
   intro pl σ γ a w e bb Q I g h u;obtain⟨r1,T,R⟩:=bind_some g;obtain⟨e1,bC⟩:=r1;have hdx:∀t∈writes x,t<N:=λt ht=>I t (mI _ ht);have hdy:∀t∈writes y,t<N:=λt ht=>I t (nC _ ht);refine wp_seq (ihx hdx T h λbM d w' D K C=>?_);cases e1 with
   | zero=>exact ihy hdy R D λahn a'' w'' s2 x2 f2=>u ahn a'' w'' s2 (K.trans x2) (C.left.trans f2.right)
   | succ e1 =>
     obtain⟨rfl,rfl⟩:=bk (aG R);have:=u bM d w' D K C.left;cases e1 with
     | zero=>exact this
     | succ i=>exact this
 | block i x ih =>
   intro pl σ γ a w e bb Q I g h u;obtain⟨r1,T,R⟩:=bind_some g;obtain⟨e1,bC⟩:=r1;obtain⟨rfl,rfl⟩:=bk (aG R);refine wp_block (ih I T h λbM d w' D K C=>?_);have:=u bM d w' D K C
   match e1,this with
   | 0,this=>exact this
   | 1,this=>exact this
   | j+2,this =>
     show Exit.inBlock i Q (.exit j) d w'
     unfold Exit.inBlock;by_cases e:j=i
     .subst e;simp only[kQ];simpa [JC] using this
     .simp only[aX e];have hb:Nat.beq (j+2) (i+2)=false:=iW (by omega);rw[hb] at this;exact this
 | scope x ih =>
   intro pl σ γ a w e bb Q I g h u;refine wp_scope_straight (ih I g h λbM d w' D K C=>?_);have:=u bM d w' D K C
   match e,this with
   | 0,this=>exact this
   | 1,this=>exact this
   | j+2,this=>exact this
 | cond o x y ihx ihy =>
   intro pl σ γ a w e bb Q I g h u;have hdx:∀t∈writes x,t<N:=λt ht=>I t (mI _ ht);have hdy:∀t∈writes y,t<N:=λt ht=>I t (nC _ ht);unfold iS at g;split at g
   .rename_i c0 F hcv;change Bool at c0;have E:=h.cu o;rw[hcv] at E;have E:=xO E;have hn:=gg g;cases c0 with
    | false=>exact wp_cond_false E (ihy hdy hn h λbM d w' D K C=>u bM d w' D K C.right)
    | true=>exact wp_cond_true E (ihx hdx hn h λbM d w' D K C=>u bM d w' D K C.left)
   .rename_i c0 p F hcv;change Bool at c0;have E:=h.cu o;rw[hcv] at E;have E:=xO E;split at g
    .cases g
    rename_i σ adX;obtain⟨γ,h,U⟩:=Gk adX h;replace u:=λbM d w' s x f=>u bM d w' s (U.trans x) f;clear U;split at g
    .cases g
    rename_i k hk;have hok:=xT hk;dsimp only at g;have go:∀{r:Nat×St},(Tree.node c0 (iS cx nb bf inl x F<|k.lock σ)<|iS cx nb bf inl y (F.drop<|marks x)<|k.lock σ).run=some r->∀{v:k.ty.den},k.IG p.fz σ r.2=some v ->
      (∀bM d w',cM B N bM (k.qL p.fz false (writes x++writes y) σ v) d w'->Ext B γ σ.mem w bM (k.qL p.fz false (writes x++writes y) σ v).mem w'->Ds (writes x++writes y) a d->Q (JC r.1) d w') ->
      (Code.cond o x y).wp P Q a w:=by
     intro r W v ho hQ;have ZG:cM B N γ (k.lock σ) a w:=by rw[ab0];exact h.tz
     have hle:Ext B γ σ.mem w γ (k.lock σ).mem w:=by rw[Dt];exact Ext.tz
     have fin:bj (k.lock σ) r.2->∀bM d w',cM B N bM r.2 d w'->Ext B γ (k.lock σ).mem w bM r.2.mem w'->Ds (writes x++writes y) a d->Q (JC r.1) d w':=by
      intro hkp bM d w' D K C;obtain⟨γ2,s2,x2⟩:=Du (wr:=writes x++writes y) hok h D (hle.trans K) C (λb bx hb OK=>hkp b _ (by rw[Dt,Nl hb,OK];rfl) rfl) ho;exact hQ γ2 d w' s2 x2 C
     have hn:=gg W;cases c0 with
     | false=>exact wp_cond_false E (ihy hdy hn ZG λbM d w' D K C=>fin (uC J _ _ _ _ hn) bM d w' D K C.right)
     | true=>exact wp_cond_true E (ihx hdx hn ZG λbM d w' D K C=>fin (uC J _ _ _ _ hn) bM d w' D K C.left)
    split at g
    .obtain⟨v,T,R⟩:=E8 g;obtain⟨rfl,rfl⟩:=bk (aG R);obtain⟨r,h3,h4⟩:=bind_some T;obtain⟨h5,h6⟩:=ay h4;refine go h3 (JE h6) λbM d w' s x f=>?_;rw[eX h5];exact u bM d w' s x f
    .rename_i es hes;obtain⟨v,T,R⟩:=E8 g;obtain⟨r,h3,h4⟩:=bind_some T;split at h4
     .rename_i i v' L ho;obtain rfl:=aG h4;rw[Np L] at R;obtain⟨rfl,rfl⟩:=bk (aG R);exact go h3 ho λbM d w' s x f=>u bM d w' s x f
     .cases h4
   .cases g
 | loop c ih =>
   intro pl σ γ a w e bb Q I g h u;unfold iS at g;split at g
   case h_2 =>
    rename_i F;generalize 100000=n at g;refine E7 (λm d w'=>∃bM bC,cM B N bM bC d w'/\Ext B γ σ.mem w bM bC.mem w'/\Ds (writes c) a d/\(again (λσ=>iS cx nb bf inl c F σ) m bC).run=some (e,bb)) (n:=n) ⟨γ,σ,h,Ext.refl _ _ _ _,Ds.refl _ _,g⟩ ?_;intro m a1 w1 hI;obtain⟨S,bC,D,e1,C,O⟩:=hI;cases m with
    | zero=>cases O
    | succ m =>
      obtain⟨r,X,A⟩:=bind_some O;obtain⟨e',cc⟩:=r;refine ih I X D λbM d w' s2 e2 f2=>?_;cases Y:Nat.beq e' 0 with
      | true =>
        dsimp only at A;rw[Y] at A;obtain rfl:=eX Y;exact⟨m,Qq m,bM,cc,s2,e1.trans e2,C.trans f2,A⟩
      | false =>
        dsimp only at A;rw[Y] at A;obtain⟨rfl,rfl⟩:=bk (aG A);have:=u bM d w' s2 (e1.trans e2) (C.trans f2)
        match e',Y,this with
        | 0,Y,_=>cases Y
        | 1,_,this=>exact this
        | i+2,_,this=>exact this
   case h_3=>cases g
   rename_i p F;split at g
   .rename_i ct hct;generalize 100=n at g;generalize 0=j at g;refine E7 (λm d w'=>∃bM bC j',cM B N bM bC d w'/\Ext B γ σ.mem w bM bC.mem w'/\Ds (writes c) a d/\(EM (λσ=>iS cx nb bf inl c F σ) ct m j' bC).run=some (e,bb)) (n:=n) ⟨γ,σ,j,h,Ext.refl _ _ _ _,Ds.refl _ _,g⟩ ?_;intro m a1 w1 hI;obtain⟨S,bC,j1,D,e1,C,O⟩:=hI;cases m with
    | zero=>cases O
    | succ m =>
      unfold EM at O;split at O
      case h_2=>cases O
      rename_i x U;obtain⟨hj,hr2⟩:=cl O;obtain⟨r,X,A⟩:=bind_some hr2;obtain⟨e',cc⟩:=r;change Int at x;have hxe:x=(j1:Int):=kH (show decide (x=(j1:Int))=true from hj);have s1':cM B N S (bC.put ct<|.data (.int .i64) (j1:Int)) a1 w1:=D.VO (by
       have:=D.slots ct;rw[U] at this;rw[<-hxe];exact this)
      refine ih I X s1' λbM d w' s2 e2 f2=>?_;have e2:Ext B S bC.mem w1 bM cc.mem w':=e2;cases Y:Nat.beq e' 0 with
      | true =>
        dsimp only at A;rw[Y] at A;obtain rfl:=eX Y;exact⟨m,Qq m,bM,cc,j1+1,s2,e1.trans e2,C.trans f2,A⟩
      | false =>
        dsimp only at A;rw[Y] at A;obtain⟨rfl,rfl⟩:=bk (aG A);have:=u bM d w' s2 (e1.trans e2) (C.trans f2)
        match e',Y,this with
        | 0,Y,_=>cases Y
        | 1,_,this=>exact this
        | i+2,_,this=>exact this
   split at g
   .cases g
   rename_i σ adX;obtain⟨γ,h,U⟩:=Gk adX h;replace u:=λbM d w' s x f=>u bM d w' s (U.trans x) f;clear U;split at g
   .cases g
   rename_i k hk;have hok:=xT hk;dsimp only at g;split at g
   .cases g
   rename_i x0 hx0;have hb:∀x r,roundOf cx nb bf inl k p.fz σ c F x=some r->∃e vf y,(iS cx nb bf inl c F<|k.qL false true (writes c) σ x).run=some (e,vf)/\(bif Nat.beq e 0 then k.out false σ vf else k.IG p.fz σ vf)=some y/\((e=0/\r=.inl y)\/(e≠0/\∃i,GP (te c) e=some i/\r=.inr (i,y))):=by
    intro x r U;unfold roundOf at U;obtain⟨q,X,A⟩:=bind_some U;obtain⟨e,vf⟩:=q;dsimp only at A;cases he:Nat.beq e 0 with
    | true =>
      rw[he] at A;simp only[ev] at A;split at A
      .rename_i y hy;exact⟨e,vf,y,X,by rw[he];exact hy,.inl ⟨eX he,(aG A).symm⟩⟩
      .cases A
    | false =>
      rw[he] at A;simp only[iU] at A;split at A
      .rename_i i y hi hy;exact⟨e,vf,y,X,by rw[he];exact hy,.inr ⟨λe0=>(by subst e0;cases he),i,hi,(aG A).symm⟩⟩
      .cases A
   have step:∀{x:k.ty.den} {e:Nat} {vf:St} {y:k.ty.den},(iS cx nb bf inl c F<|k.qL false true (writes c) σ x).run=some (e,vf)->(bif Nat.beq e 0 then k.out false σ vf else k.IG p.fz σ vf)=some y->∀S a1 w1 (Q':Exit->Act->World->Prop),cM B N S (k.qL false true (writes c) σ x) a1 w1 ->
     (∀vf bM d w',(bif Nat.beq e 0 then k.out false σ vf else k.IG p.fz σ vf)=some y->bj (k.qL false true (writes c) σ x) vf->cM B N bM vf d w'->Ext B S (k.qL false true (writes c) σ x).mem w1 bM vf.mem w'->Ds (writes c) a1 d->Q' (JC e) d w')->c.wp P Q' a1 w1:=by
    intro x e vf y W ho S a1 w1 Q' s hQ;exact ih I W s λbM d w' D K C=>hQ vf bM d w' ho (uC J _ _ _ _ W) D K C
   split at g
   .rename_i e0 hes;obtain⟨v,T,R⟩:=bY g;obtain⟨rfl,rfl⟩:=bk (aG R);refine Nq (fz:=p.fz) hok h hx0 _ (λz e' y=>e'=e0/\z=y) T (λx r U=>?_) (λe' y Z6 hO bM d w' s x f=>?_)
    .rcases Xd U with ⟨y,rfl,hy⟩|⟨i,y,rfl,hy⟩
     .obtain⟨e,vf,y',X,A,Z⟩:=hb x _ hy;rcases Z with ⟨rfl,Z⟩|⟨_,i,_,Z⟩
      .obtain rfl:=M3 Z;exact⟨0,y,⟨rfl,rfl⟩,step X A⟩
      .cases Z
     .obtain⟨e,vf,y',X,A,Z⟩:=hb x _ hy;rcases Z with ⟨rfl,Z⟩|⟨Z6,i',L,Z⟩
      .cases Z
      .obtain⟨rfl,rfl⟩:=bk (Sum.inr.inj Z);rw[hes] at L;exact⟨e,y,⟨Z6,Z7 L,rfl⟩,step X A⟩
    .obtain⟨rfl,rfl⟩:=hO;exact u bM d w' s x f
   .obtain⟨v,T,R⟩:=bY g;refine Nq (fz:=p.fz) hok h hx0 _ (λz e' y=>GP (te c) e'=some z.1/\z.2=y) T (λx r U=>?_) (λe' y Z6 hO bM d w' s x f=>?_)
    .obtain⟨e,vf,y',X,A,Z⟩:=hb x _ U;rcases Z with ⟨rfl,rfl⟩|⟨Z6,i,L,rfl⟩
     .exact⟨0,y',⟨rfl,rfl⟩,step X A⟩
     .exact⟨e,y',⟨Z6,L,rfl⟩,step X A⟩
    .obtain⟨L,rfl⟩:=hO;rw[Np L] at R;obtain⟨rfl,rfl⟩:=bk (aG R);exact u bM d w' s x f
 | _=>intro pl σ γ a w e bb Q I g h u;cases g
end
end Go.Ge
namespace Go.Ge
variable [Lp]
open RowKit
def T8(fn:Func):Bool:=!(fn.name == "runtime.NumGoroutine")&&(match fn.body with|some c=>(writes c).all λt=>Nat.blt t fn.ntmps|none=>true)
def Nr(cx:Ctx):Prop:=∀f b,find cx.fns f=some b->T8 b=true
theorem su{c:Type}{l:List (Nat×c)}{k:Nat}{x:c}(h:find l k=some x):(k,x)∈l:=by
 induction l with
 | nil=>cases h
 | cons p r d =>
   obtain⟨i,a⟩:=p;simp only[find] at h;cases b:Nat.beq i k with
   | true =>
     rw[b] at h;obtain rfl:=aG h;obtain rfl:=eX b;exact mJ ..
   | false=>rw[b] at h;exact oh _ (d h)
theorem Ru{cx:Ctx}(h:(cx.fns.all λp=>T8 p.2)=true):Nr cx:=λf c b=>by
 rw[sb] at h;exact h _ (su b)
section
variable {P:Program} {B:qM} {N:Nat} {γ:Gh} {σ:St} {a:Act} {w:World} {cx:Ctx}
def E9(b:Array Value):ResultVar->Sem Value
 | .tmp t=>pure (b.getD t undef)
 | .cell a t=>do loadVar t (<-asAddr (b.getD a undef))
theorem yK(e:fv P cx)(h:cM B N γ σ a w){r:ResultVar}{v:aL}(d:(EN cx σ r).run=some v):∃b,(E9 a.tmps r).run P w=.ok b w/\cf γ σ.mem w v .val [b]:=by
 cases r with
 | tmp t =>
   obtain rfl:=aG d;exact⟨_,rfl,h.slots t⟩
 | cell t ty =>
   obtain⟨τ,f,g⟩:=bind_some d;obtain rfl:=aG g;obtain⟨u,b,i,rfl,j,k,l⟩:=QN (P:=P) e (x:=.tmp t) h f;refine⟨b,?_,?_⟩
   .have c:a.tmps.getD t undef=.pointer (some i):=j;simp only[E9,c,asAddr,Sem.run_bind,Sem.run_pure,Result.andThen_ok,k]
   .simpa [St.aW,St.put] using l
theorem JF(e:fv P cx)(h:cM B N γ σ a w):∀{rs:List ResultVar} {v:aL},(CW cx σ rs).run=some v->∃b:List Value,b.length=rs.length/\(rs.mapM<|E9 a.tmps).run P w=.ok b w/\cf γ σ.mem w v .many b:=by
 intro rs;induction rs with
 | nil=>intro v d;obtain rfl:=aG d;exact⟨[],rfl,rfl,rfl⟩
 | cons r rs f =>
   intro v d;obtain⟨s,g,i⟩:=bind_some d;obtain⟨l,j,k⟩:=bind_some i;obtain rfl:=aG k;obtain⟨c,m,n⟩:=yK e h g;obtain⟨b,o,p,q⟩:=f j;refine⟨c::b,by simp[o],?_,c,b,rfl,n,q⟩;simp only[Vv,Sem.run_bind,m,Result.andThen_ok,p,Sem.run_pure]
theorem T9(c:Func)(b:Array Value):results c b=(do
  let vs <-c.results.toList.mapM (E9 b)
  pure (if h:vs.toArray.size=1 then vs.toArray[0] else .tuple vs.toArray)):=by
 have h:results c b=(do
   let vs <-c.results.mapM (E9 b)
   pure (if h:vs.size=1 then vs[0] else .tuple vs)):=by
  unfold results
  congr 1
 rw[h,Array.mapM_eq_mapM_toList];simp only[bind_map_left]
theorem we(i:fv P cx)(h:cM B N γ σ a w){fn:Func}{v:aL}(d:(results1 cx σ fn.results.toList).run=some v):∃b,(results fn a.tmps).run P w=.ok b w/\cf γ σ.mem w v .val [b]:=by
 rw[T9];generalize fn.results.toList=rs at d;have many:∀{l:aL},rs.length≠1->(CW cx σ rs).run=some l->∃b,(do
   let vs <-rs.mapM (E9 a.tmps)
   pure (if h:vs.toArray.size=1 then vs.toArray[0] else .tuple vs.toArray):Sem Value).run P w=.ok b w/\cf γ σ.mem w (.yC l) .val [b]:=by
  intro l e j;obtain⟨c,k,m,n⟩:=JF i h j;refine⟨.tuple c.toArray,?_,c.toArray,rfl,by simpa using n⟩;have:¬c.toArray.size=1:=by simp[k,e]
  simp only[Sem.run_bind,m,Result.andThen_ok,Sem.run_pure,dif_neg this]
 match rs,d with
 | [],d =>
   obtain⟨l,f,g⟩:=bind_some d;obtain rfl:=aG g;exact many (by simp) f
 | [r],d =>
   obtain⟨b,o,p⟩:=yK i h d;refine⟨b,?_,p⟩;simp only[Vv,List.mapM_nil,Sem.run_bind,o,Result.andThen_ok,Sem.run_pure];rfl
 | r::s::rs,d =>
   obtain⟨l,f,g⟩:=bind_some d;obtain rfl:=aG g;exact many (by simp) f
theorem Fa{d:Nat->Option bB}(i:bu B γ d w){b:List aL}{c:Array Value}(g:lz γ d w b c.toList)(n:Nat) :
  cM B (c.size+(n-c.size)) γ (uo d b) { tmps:=c++Array.replicate (n-c.size) undef,defers:=[] } w where
 slots:=λt=>by
  show cf γ d w ((b[t]?).getD .undef) .val [_]
  cases h:b[t]? with
  | none=>exact⟨_,rfl⟩
  | some v =>
    have e:t<c.size:=by
     have:=(fU.1 h).1;have f:=g.1;simp at f;omega
    have j:c[t]?=some c[t]:=Array.getElem?_eq_getElem e;have f:(c++Array.replicate (n-c.size) undef).getD t undef=c[t]:=by
     rw[Ti,ac2 e,j];rfl
    dsimp only;rw[f];exact g.2 t v c[t] h (by simp[e])
 size:=by simp
 defers:=rfl
 ok:=i
noncomputable def Nt(c:Ctx)(n d:Nat)(b:Nat->td):Nat->List aL->St->Tree (aL×St) :=
 λg e σ=>(yE c n (BZ σ.mem ((d+g+1)*1000) (b g).Oo) b g e σ.mem).bind λr=>.ret (r.1,{ σ with mem:=r.2 })
theorem JG{n h f:Nat}{b:Nat->td}{d:List aL}{g:Nat->Option bB}{r:aL×(Nat->Option bB)}(e:(yE cx (n+1) h b f d g).run=some r) :
  ∃fn c,find cx.fns f=some fn/\fn.body=some c/\((II cx h (b f) (Nt cx n h b) fn c d g).run=some r\/∃R,(VG R d g<|II cx h (b f) (Nt cx n h b) fn c d).run=some r):=by
 unfold yE at e;split at e
 case h_2=>cases e
 rename_i fn i;split at e
 case h_2=>cases e
 rename_i c j;refine⟨fn,c,i,j,?_⟩;split at e
 .exact .inl e
 .exact .inr ⟨_,e⟩
theorem Cf{g:Nat}{p:td}{inl:Nat->List aL->St->Tree (aL×St)}{fn:Func}{c:Code}{b:List aL}{f:Nat->Option bB}{r:aL×(Nat->Option bB)}(h:(II cx g p inl fn c b f).run=some r) :
  ∃e bb,(iS cx g p.Oo inl c p.marks<|uo f b).run=some (e,bb)/\(e=0\/e=1)/\(results1 cx bb fn.results.toList).run=some r.1/\r.2=bb.mem:=by
 obtain⟨q,i,j⟩:=bind_some h;obtain⟨e,bb⟩:=q;obtain⟨d,k⟩:=ay j;obtain⟨v,l,m⟩:=bind_some k;obtain rfl:=aG m;refine⟨e,bb,i,?_,l,rfl⟩;simp only[wJ] at d;rcases d with d|d
 .exact .inl (eX d)
 .exact .inr (eX d)
theorem ab1:∀{l:List Ty} {i t:Nat} {s:Sh},(t,s)∈VF l i->∃u,s=.d u:=by
 intro l;induction l with
 | nil=>intro i t s h;cases h
 | cons a r b =>
   intro i t s h;rcases gd.1 h with h|h
   .obtain⟨rfl,rfl⟩:=bk h;exact⟨a,rfl⟩
   .exact b h
theorem JH{R:Bool×List Ty}{d:List aL}{c:Nat->Option bB}{F:(Nat->Option bB)->Tree (aL×(Nat->Option bB))}{r:aL×(Nat->Option bB)}(e:(VG R d c F).run=some r) :
  ∃(k:Carry) (x:k.ty.den) (v:aL) (dO:Nat->Option bB),AG k (jk c)/\(F (k.lock<|jk c).mem).run=some (v,dO)/\k.out false (jk c) (Zv R.1 v dO)=some x/\QH R.1 v R.2.length=true /\
   r=(Ou R.1 R.2.length (k.qL false false (List.range R.2.length) (jk c) x).slots,(k.qL false false (List.range R.2.length) (jk c) x).mem):=by
 unfold VG at e;split at e
 .cases e
 rename_i m i;obtain⟨x,j,l⟩:=E8 e;obtain⟨q,n,f⟩:=bind_some j;obtain⟨o,f⟩:=ay f;refine⟨⟨VF R.2 0,m,λ_ g=>g⟩,x,q.1,q.2,⟨λt s h=>?_,Z5 i,λb x p=>(by cases p)⟩,n,JE f,o,(aG l).symm⟩;obtain⟨u,rfl⟩:=ab1 h;trivial
theorem Z8{γ:Gh}{mem:Nat->Option bB}{w:World}:∀{m:aL} {vs:List Value},cf γ mem w m .many vs->IH m=vs.length/\∀(t:Nat) (u:aL),nth m t=some u->∃v,vs[t]?=some v/\cf γ mem w u .val [v]:=by
 intro m;induction m with
 | mix a b _ d =>
   intro vs h;obtain⟨v,r,rfl,e,f⟩:=h;obtain⟨g,i⟩:=d f;refine⟨by simp only[IH,dh,g],λt u c=>?_⟩;cases t with
   | zero=>obtain rfl:=aG c;exact⟨v,rfl,e⟩
   | succ t=>exact i t u c
 | nl=>intro vs h;obtain rfl:vs=[]:=h;exact⟨rfl,λt u c=>(by cases t<;>cases c)⟩
 | _=>intro vs h;exact h.elim
theorem Xe{γ:Gh}{mem:Nat->Option bB}{w:World}{slots:Nat->aL}:∀(vs:List Value) (i:Nat),(∀(t:Nat) (v:Value),vs[t]?=some v->cf γ mem w (slots<|i+t) .val [v])->cf γ mem w (adH slots i vs.length) .many vs:=by
 intro vs;induction vs with
 | nil=>intro i h;exact rfl
 | cons v r b =>
   intro i h;refine⟨v,r,rfl,h 0 v rfl,b (i+1) λt u c=>?_⟩;have:=h (t+1) u (by simpa using c)
   rwa [show i+(t+1)=i+1+t by omega] at this
theorem Ua{d:Nat->td}:∀(n nb f:Nat) (g:List aL) (mem:Nat->Option bB) (r:aL×(Nat->Option bB)),(yE cx n nb d f g mem).run=some r->∀b i,mem b=some i->i.lk=true->r.2 b=some i:=by
 intro n;induction n with
 | zero=>intro nb f g mem r h;cases h
 | succ n o =>
   intro nb f g mem r h b i l m;obtain⟨p,c,A,C,j⟩:=JG h;have body:∀{mem:Nat->Option bB} {r:aL×(Nat->Option bB)},(II cx nb (d f) (Nt cx n nb d) p c g mem).run=some r->∀b i,mem b=some i->i.lk=true->r.2 b=some i:=by
    intro mem r h b i l m;obtain⟨e,bb,j,D,E,s⟩:=Cf h;have:=uC (λf g σ v bb t=>by
     obtain⟨q,u,y⟩:=bind_some (show((yE cx n (BZ σ.mem ((nb+f+1)*1000) (d f).Oo) d f g σ.mem).bind λr=>.ret (r.1,{ σ with mem:=r.2 })).run=some (v,bb) from t);obtain⟨rfl,rfl⟩:=bk (aG y);exact λb i l m=>o _ _ _ _ q u b i l m) c _ _ _ j
    rw[s];exact this b i l m
   rcases j with j|⟨R,j⟩
   .exact body j b i l m
   .obtain⟨k,x,v,dO,z,_,_,_,rfl⟩:=JH j;exact zE (fz:=false) (lock:=false) (wr:=List.range R.2.length) (x:=x) z b i l m
theorem JI{c:Nat->td}(n e:Nat):∀f d σ v bb,(Nt cx n e c f d σ).run=some (v,bb)->bj σ bb:=by
 intro f d σ v bb g;obtain⟨q,h,i⟩:=bind_some (show((yE cx n (BZ σ.mem ((e+f+1)*1000) (c f).Oo) c f d σ.mem).bind λr=>.ret (r.1,{ σ with mem:=r.2 })).run=some (v,bb) from g);obtain⟨rfl,rfl⟩:=bk (aG i);exact λb j k l=>Ua _ _ _ _ _ q h b j k l
theorem Gl(U:P.follows .mixedOrders=true)(hc:fv P cx){G:fD}(W:pC P G cx)(X:Nr cx){i:Nat->td} :
  ∀(n nb f:Nat) (B:qM) (γ:Gh) (mem dO:Nat->Option bB) (w:World) (d:List aL) (C:Array Value) (v:aL),B.G=G->bu B γ mem w->lz γ mem w d C.toList->(yE cx n nb i f d mem).run=some (v,dO) ->
  (∃y Y,P.funcs[f]?=some y/\(y.name == "runtime.NumGoroutine")=false/\y.body=some Y) /\
  Calls P f C w λe w'=>∃g bM,e=.returned g/\bu B bM dO w'/\Ext B γ mem w bM dO w'/\cf bM dO w' v .val [g]:=by
 intro n;induction n with
 | zero=>intro nb f B γ mem dO w d C v _ _ _ h;cases h
 | succ n ih =>
   intro nb f B γ mem dO w d C v hG E S h;subst hG;obtain⟨y,c,h1,h2,F⟩:=JG h;have I:=X f y h1;simp only[T8,h2,dv,j7,sb] at I;have hP:=hc.fns f y h1;refine⟨⟨y,c,hP,I.1,h2⟩,?_⟩;have Z:vn P B.G (Nt cx n nb i):=by
    intro B' γ σ ahp w f d C v hG E S hi;obtain⟨q,g1,g2⟩:=bind_some (show((yE cx n (BZ σ.mem ((nb+f+1)*1000) (i f).Oo) i f d σ.mem).bind λr=>.ret (r.1,{ σ with mem:=r.2 })).run=some (v,ahp) from hi);obtain⟨rfl,rfl⟩:=bk (aG g2);obtain⟨k1,k2⟩:=ih _ f B' γ σ.mem q.2 w d C q.1 hG E S g1;exact⟨k1,rfl,k2⟩
   have body:∀{γ:Gh} {mem dO:Nat->Option bB} {v:aL},bu B γ mem w->lz γ mem w d C.toList->(II cx nb (i f) (Nt cx n nb i) y c d mem).run=some (v,dO) ->
     Calls P f C w λe w'=>∃g bM,e=.returned g/\bu B bM dO w'/\Ext B γ mem w bM dO w'/\cf bM dO w' v .val [g]:=by
    intro γ mem dO v E S h;obtain⟨e,bb,F,h4,h5,h6⟩:=Cf h;dsimp only at h5 h6;subst h6;refine calls_of_wp hP h2 ?_;refine ss (B:=B) U hc W Z (JI _ _) c (λt z=>?_) F (Fa E S y.ntmps) λbM a' w' s x f=>?_
    .have:=I.2 t z;have:=BT (by simpa [Nat.blt] using this);omega
    .obtain⟨g,r1,r2⟩:=we (fn:=y) hc s h5;have:a'.defers=[]/\∃T,(results y a'.tmps).run P w'=.ok T w'/\∃g bM,Ending.returned T=.returned g/\bu B bM bb.mem w'/\Ext B γ mem w bM bb.mem w'/\cf bM bb.mem w' v .val [g] :=
      ⟨s.defers,g,r1,g,bM,rfl,s.ok,x,r2⟩
     rcases h4 with rfl|rfl
     .exact this
     .exact this
   rcases F with F|⟨R,F⟩
   .exact body E S F
   .obtain⟨k,x,T,j,hk,h4,h5,J,h6⟩:=JH F;obtain⟨rfl,rfl⟩:=bk h6;have K:(k.lock<|jk mem).mem=tz (λb A=>bif uk k.M b then A.lk else true) mem:=Dt k (jk mem);have hm1:bu B γ (k.lock<|jk mem).mem w:=by rw[K];exact E.tz
    have hx1:Ext B γ mem w γ (k.lock<|jk mem).mem w:=by rw[K];exact Ext.tz
    have O:∀b A,(k.lock<|jk mem).mem b=some A->A.lk=true->j b=some A:=by
     intro b A hb hl;obtain⟨e,bb,g3,_,_,g6⟩:=Cf h4;have:=uC (λf d σ v bb hi=>JI n nb f d σ v bb hi) c _ _ _ g3;rw[show j=bb.mem from g6];exact this b A hb hl
    refine(body hm1 (S.ext hx1) h4).mono λe w' hw=>?_;obtain⟨g,l,rfl,m1,x1,r1⟩:=hw;have fin:∀(n:Nat) (ts:Array Value),ts.size=n->n=R.2.length->(∀t,cf l j w' (spread R.1 T t) .val [ts.getD t undef]) ->
      (∀{o:Nat->Option bB} {sl:Nat->aL},(∀t,cf l o w' (sl t) .val [ts.getD t undef])->cf l o w' (Ou R.1 R.2.length sl) .val [g]) ->
      ∃D Q,Ending.returned g=.returned D/\bu B Q (k.qL false false (List.range R.2.length) (jk mem) x).mem w'/\Ext B γ mem w Q (k.qL false false (List.range R.2.length) (jk mem) x).mem w' /\
       cf Q (k.qL false false (List.range R.2.length) (jk mem) x).mem w' (Ou R.1 R.2.length (k.qL false false (List.range R.2.length) (jk mem) x).slots) .val [D]:=by
     intro n ts hts hn hr hg;have s0:cM B n γ (jk mem) { tmps:=Array.replicate n undef,defers:=[] } w:=⟨λt=>⟨_,rfl⟩,by simp,rfl,E⟩;have s1:cM B n l (Zv R.1 T j) { tmps:=ts,defers:=[] } w':=⟨hr,hts,rfl,m1⟩;obtain⟨s2,x2⟩:=sr (lock:=false) (wr:=List.range R.2.length) hk s0 s1 (hx1.trans x1) (λt z=>by
      have z:¬t<n:=λhlt=>by
       have ahq:t∈List.range R.2.length:=GN.2 (by omega);have:cI (List.range R.2.length) t=true:=Dg.2 ahq;rw[this] at z;cases z
      rw[Qk<|by show ts.size<=t;omega,Qk (by simp;omega)]) (λb A hb OK=>⟨true,O b _ (by rw[K];simp only[tz,show mem b=some A from hb,OK,iU]) rfl⟩) h5
     exact⟨g,l,rfl,s2.ok,x2,hg s2.slots⟩
    obtain⟨yC,L⟩:=R;cases yC with
    | false =>
      have hL:L.length=1:=eX J;refine fin 1 #[g] rfl hL.symm (λt=>?_) (λh=>h 0);cases t with
      | zero=>exact r1
      | succ t=>exact⟨_,rfl⟩
    | true =>
      cases T with
      | yC m =>
        obtain⟨p,e1,r2⟩:=r1;obtain⟨q1,q2⟩:=Z8 r2;have hL:IH m=L.length:=eX J;obtain rfl:g=.tuple p:=ue e1;have Ts:p.size=L.length:=by rw[<-hL,q1];simp
        refine fin L.length p Ts rfl (λt=>?_) (λ{o sl} h=>⟨p,rfl,?_⟩)
        .show cf l j w' (match nth m t with|some u=>u|none=>.undef) .val _
         cases z:nth m t with
         | none=>exact⟨_,rfl⟩
         | some u =>
           obtain⟨v,g1,g2⟩:=q2 t u z;dsimp only;rw[Ti,<-YT,g1];exact g2
        .have:=Xe (γ:=l) (mem:=o) (w:=w') (slots:=sl) p.toList 0 λt v z=>by
          have:=h t;rw[Ti,<-YT,z] at this;rw[qI];exact this
         rwa [show p.toList.length=L.length by rw[<-Ts];simp] at this
      | _=>cases J
end
end Go.Ge
namespace Go.Ge
variable [Lp]
open RowKit
section
variable {P:Program} {B:qM} {N:Nat} {γ:Gh} {σ:St} {a:Act} {w:World} {cx:Ctx}
theorem Pf{d:Nat->Option bB}{I:Nat->Nat->Prop}{e:Nat->Option (Nat×Nat)}:∀{A:Ty} {x:A.den} {b:List Value},iL w I A x b->lz ⟨I,e⟩ d w (EO A x) b:=by
 intro A;induction A with
 | pair t r k f =>
   intro x b h;obtain⟨l,g,rfl,m,n⟩:=h;have:=f n;refine⟨by simp[EO,this.1],λi v y c j=>?_⟩;cases i with
   | zero =>
     obtain rfl:=aG c;obtain rfl:=aG j;exact⟨l,m,rfl⟩
   | succ i=>exact this.2 i v y (by simpa [EO] using c) (by simpa using j)
 | unit=>intro x b h;rw[show b=[] from h];exact⟨rfl,λi v y c=>by cases c⟩
 | _=>intro x b h;exact h.elim
theorem Rv(i:bu B γ σ.mem w){f:Nat->Nat->Prop}(j:∀b o,γ.I b o->f b o)(g:∀b o,B.has b->b<w.heap.size->f b o):∀{R:Ty} {y:R.den} {u:aL} {vs:List Value},
  cf γ σ.mem w u .many vs->iI σ R (CX u)=some y->cf ⟨f,λ_=>none⟩ (λ_=>none) w (zj R y) .many vs:=by
 intro R;induction R with
 | pair t r k h =>
   intro y u vs d c;cases u with
   | mix p q =>
     obtain⟨v,e,rfl,l,m⟩:=d;simp only[CX,iI] at c;split at c
     .rename_i x z n s;obtain rfl:=aG c;obtain⟨A,C,D⟩:=Ja i j g l n;exact⟨v,e,rfl,⟨A,C,by rw[D]⟩,h m s⟩
     .cases c
   | _=>cases c
 | unit =>
   intro y u vs d c;cases u with
   | mix p q=>cases c
   | nl=>exact d
   | _=>exact(show False from d).elim
 | _=>intro y u vs d c;cases u<;>cases c
theorem Nu(l:bu B γ σ.mem w){i:Nat->Nat->Prop}(m:∀b o,γ.I b o->i b o)(f:∀b o,B.has b->b<w.heap.size->i b o){R:Ty}{y:R.den}{v:aL}{d:Value}
  (n:cf γ σ.mem w v .val [d]) (c:iI σ R (CY R v)=some y):kX w i R y d:=by
 have many:∀{R:Ty} {y:R.den},(ug R y=.yC (zj R y))->(iI σ R (match v with|.yC v=>CX v|v=>[v])=some y)->(∀t,R≠.pair t .unit)->kX w i R y d:=by
  intro R y g c j;unfold kX;rw[g];have one:∀{p:aL},iI σ R [p]=some y->False:=by
   intro p h;cases R with
   | pair t r =>
     simp only[iI] at h;split at h
     .rename_i q;cases r with
      | unit=>exact j t rfl
      | _=>cases q
     .cases h
   | _=>cases h
  cases v with
  | yC u =>
    obtain⟨k,s,A⟩:=n;exact⟨k,s,Rv l m f A c⟩
  | _=>exact(one c).elim
 cases R with
 | pair t r =>
   cases r with
   | unit =>
     simp only[CY,iI] at c;split at c
     .rename_i x z C G;obtain rfl:=aG c;obtain⟨D,E,F⟩:=Ja l m f n C;exact⟨D,E,by rw[F]⟩
     .cases c
   | _=>exact many rfl (by cases v<;>exact c) (λt e=>by cases e)
 | _=>exact many rfl (by cases v<;>exact c) (λt e=>by cases e)
theorem Dv(C:P.follows .mixedOrders=true)(U:fv P cx){G:fD}(D:pC P G cx)(m:Nr cx){t:Nat->td}{n f:Nat}{A R:Ty}{p:A.den->Option R.den}
  {E:Func} {q:Code} (F:find cx.fns f=some E) (i:E.body=some q) (h:∀x y,p x=some y->sem cx n t f A R x=some y):Holds P G f ⟨A,R,p⟩ where
 body:=by
  have J:=m f E F;simp only[T8,i,dv,j7] at J;exact⟨E,q,U.fns f E F,J.1,i⟩
 calls:=by
  intro I w K x y X Y u z;have W:=h x y z;unfold sem at W;obtain⟨r,h1,s⟩:=bind_some W;obtain⟨v,dO⟩:=r;have Z:iI (jk dO) R (CY R v)=some y:=by
   dsimp only at s;split at s
   .rename_i y' O;obtain rfl:=aG s;exact O
   .cases s
  have hm:bu (mo G w.heap.size) ⟨I,λ_=>none⟩ (λ_=>none) w :=
   { cT:=λb Q g=>by
      obtain⟨o,h1,s⟩:=Y b Q g;exact⟨λj=>by have:=p5.1 j;have:=(va.1 h1).1;omega,o,h1,s⟩
     base:=bZ _
     boxes:=λb bx j=>by cases j
     inj:=λb c L k k' j=>absurd rfl j
     fresh:=λb L k j=>absurd rfl j
     sg:=X
     sep:=λb bx L k off j=>by cases j }
  obtain⟨_,l⟩:=Gl C U D m n 0 f (mo G w.heap.size) ⟨I,λ_=>none⟩ (λ_=>none) dO w (EO A x) K v rfl hm (Pf u) h1;refine l.mono λe w' hw=>?_;obtain⟨S,bM,rfl,m1,T,r1⟩:=hw;refine⟨S,λb o=>bM.I b o\/(w.heap.size<=b/\b<w'.heap.size),rfl,T.below.below,λb o d=>.inl (T.I b o d),λb o d=>?_,λb o d hn=>?_,?_⟩
  .rcases d with d|d
   .exact m1.sg b o d
   .exact d.2
  .rcases d with d|d
   .exact p5.1 ((T.ox b o d).resolve_left hn)
   .exact d.1
  .exact Nu (σ:=jk dO) m1 (λb o d=>.inl d) (λb o h1 s=>.inr ⟨p5.1 h1,s⟩) r1 Z
def JJ(N M:List (Nat×Nat))(c:List Nat)(ls:List (Option<|Nat×Nat)):Nat->Option (Nat×Nat):=ir M ls (ir N (c.map λb=>some (b,0)) λ_=>none)
theorem ab2{I:Nat->Nat->Prop}{N M:List (Nat×Nat)}{d:List Nat}{b:List (Option<|Nat×Nat)}(c:(bo N M).Nodup)(e:M.length=b.length):p8 ⟨I,JJ N M d b⟩ M b:=by
 unfold bo at c;exact xS (Lk.1 c).2.1 e
theorem ab3{I:Nat->Nat->Prop}{N M:List (Nat×Nat)}{c:List Nat}{ls:List (Option<|Nat×Nat)}(d:(bo N M).Nodup)(f:N.length=c.length):iX ⟨I,JJ N M c ls⟩ N c:=by
 unfold bo at d;obtain⟨g,l,h⟩:=Lk.1 d;have e:=xS (loc:=λ_=>none) g (ls:=c.map λb=>some (b,0)) (by simp[f]);unfold iX;have i:N.map (λp=>(JJ N M c ls p.1).map (·.1))=(N.map λp=>ir N (c.map λb=>some (b,0)) (λ_=>none) p.1).map (Option.map (·.1)):=by
  rw[M0];refine Il λp j=>?_;show(ir M ls _ p.1).map _=_
  rw[B7 λk=>h p.1 (se.2 ⟨p,j,rfl⟩) p.1 k rfl];rfl
 exact i.trans (by rw[e,M0];rfl)
theorem Z9{N M:List (Nat×Nat)}{z:List Nat}{t:List (Option<|Nat×Nat)}(J:iX γ N z)(K:p8 γ M t)(F:(cO z t).Nodup){b c d k O:Nat}(f:b∈bo N M)(m:c∈bo N M)
  (A:γ.loc b=some (d,k)) (C:γ.loc c=some (d,O)):b=c:=by
 unfold cO at F;obtain⟨Q,R,G⟩:=Lk.1 F;have H6:∀{b k},b∈N.map (·.1)->γ.loc b=some (d,k)->∃i v:Nat,N[i]?=some (b,v)/\z[i]?=some d:=by
  intro b k f e;obtain⟨p,D,rfl⟩:=se.1 f;obtain⟨i,u,g⟩:=MO D;refine⟨i,p.2,by rw[gH u,g],?_⟩;have:=congrArg (λl=>l[i]?) J;simp only[wH,gH u,g,EG,e] at this;cases I:z[i]? with
  | none=>rw[I] at this;cases this
  | some x=>rw[I] at this;simp at this;rw[this]
 have uk:∀{b k},b∈M.map (·.1)->γ.loc b=some (d,k)->∃i v:Nat,M[i]?=some (b,v)/\t[i]?=some (some (d,k)):=by
  intro b k f e;obtain⟨p,D,rfl⟩:=se.1 f;obtain⟨i,u,g⟩:=MO D;refine⟨i,p.2,by rw[gH u,g],?_⟩;rw[<-K,wH,gH u,g,EG,e]
 have n:∀{i k:Nat},t[i]?=some (some (d,k))->d∈t.filterMap λL=>L.map (·.1):=λh=>MR.2 ⟨_,eF h,rfl⟩;unfold bo at f m;rcases ra.1 f with f|f<;>rcases ra.1 m with m|m
 .obtain⟨i,v,y,o⟩:=H6 f A;obtain⟨j,E,q,r⟩:=H6 m C;have s:i=j:=(List.getElem?_inj (fU.1 o).1 Q).1 (o.trans r.symm);subst s;rw[y] at q;exact(bk<|aG q).1
 .obtain⟨i,v,y,o⟩:=H6 f A;obtain⟨j,E,q,r⟩:=uk m C;exact absurd rfl (G d (eF o) d<|n r)
 .obtain⟨i,v,y,o⟩:=uk f A;obtain⟨j,E,q,r⟩:=H6 m C;exact absurd rfl (G d (eF r) d<|n o)
 .obtain⟨i,v,y,o⟩:=uk f A;obtain⟨j,E,q,r⟩:=uk m C;have s:=ZL R o r;subst s;rw[y] at q;exact(bk<|aG q).1
theorem JK{k:Nat}:∀{n:Nat},(mh k n).length=n:=by
 intro n;induction n generalizing k with
 | zero=>rfl
 | succ n b=>simp[mh,b]
theorem JL{k:Nat}:∀{n:Nat},(pR k n).length=n:=by
 intro n;induction n generalizing k with
 | zero=>rfl
 | succ n b=>simp[pR,b]
theorem Xf:∀{a k b:Nat},(mh k<|a+b).drop a=mh (k+a) b:=by
 intro a;induction a with
 | zero=>intro k b;rw[qI];rfl
 | succ a c =>
   intro k b;rw[show a+1+b=(a+b)+1 by omega];show(mh (k+1)<|a+b).drop a=_
   rw[c,show k+1+a=k+(a+1) by omega]
theorem Xg:∀{a k b:Nat},(pR k<|a+b).drop a=pR (k+a) b:=by
 intro a;induction a with
 | zero=>intro k b;rw[qI];rfl
 | succ a c =>
   intro k b;rw[show a+1+b=(a+b)+1 by omega];show(pR (k+1)<|a+b).drop a=_
   rw[c,show k+1+a=k+(a+1) by omega]
def Pg:OT->Nat->aL
 | .pair .dM U,k=>.mix .dM (Pg U k)
 | .pair o U,k=>.mix (.ptr (CZ k) 0 []) (Pg U<|k+o.nr)
 | _,_=>.data .unit ()
theorem Ub{j:Nat->Option bB}:∀{ps:List Bool} {A:Ty} {U:OT} {x:A.den} {u:U.den} {s lu:List Value} {k m:Nat},Na w γ.I ps A U x s lu->cf γ j w (CR U u (mh k U.nr)<|pR m U.nb) .cells lu ->
  lz γ j w (yF ps U A x k) s/\CR U u (mh k U.nr) (pR m U.nb)=Pg U k:=by
 intro ps;induction ps with
 | nil =>
   intro A U x u s lu k m h S;obtain⟨_,rfl,rfl,_⟩:=h;exact⟨⟨rfl,λi v y d=>by cases d⟩,rfl⟩
 | cons p ps C =>
   intro A U x u s lu k m h l;cases p with
   | false =>
     cases A<;>first|(exact(show False from h).elim)|skip
     rename_i t A;obtain⟨O,f,rfl,n,Q⟩:=h;obtain⟨c,q⟩:=C Q l;refine⟨⟨by simp[yF,c.1],λi v y d g=>?_⟩,q⟩;cases i with
     | zero =>
       obtain rfl:=aG d;obtain rfl:=aG g;exact⟨O,n,rfl⟩
     | succ i=>exact c.2 i v y (by simpa [yF] using d) (by simpa using g)
   | true =>
     cases U<;>first|(exact(show False from h).elim)|skip
     rename_i o U;cases o<;>first|(exact(show False from h).elim)|skip
     case dM =>
      obtain⟨D,f,r,rfl,rfl,n⟩:=h;have E:CR (.pair .dM U) u (mh k (OT.pair .dM U).nr) (pR m (OT.pair .dM U).nb)=.mix .dM (CR U u.2 (mh k U.nr)<|pR m U.nb):=by
       show aL.mix .dM (CR U u.2 ((mh k<|0+U.nr).drop 0)<|(pR m<|0+U.nb).drop 0)=_
       rw[qI,qI];rfl
      rw[E] at l⊢;obtain⟨F,R,G,z,J⟩:=l;have K:F=[.pointer none]:=z;subst K;obtain⟨rfl,rfl⟩:=MY G;obtain⟨c,q⟩:=C n J;refine⟨⟨by simp[yF,c.1],λi L y d g=>?_⟩,?_⟩
      .cases i with
       | zero =>
         obtain rfl:=aG d;obtain rfl:=aG g;exact rfl
       | succ i=>exact c.2 i L y (by simpa [yF] using d) (by simpa using g)
      .rw[q];rfl
     rename_i tid o;obtain⟨D,f,r,rfl,rfl,n⟩:=h;have E:CR (.pair (.ref tid o) U) u (mh k (OT.pair (.ref tid o) U).nr) (pR m (OT.pair (.ref tid o) U).nb)=.mix (.ptr (CZ k) 0 []) (CR U u.2 (mh (k+(OT.ref tid o).nr) U.nr)<|pR (m+(OT.ref tid o).nb) U.nb):=by
      rw[<-Xf,<-Xg];show aL.mix (CR (.ref tid o) u.1 _ _) _=_
      congr 1
      show(match(mh k<|o.nr+1+U.nr).take (o.nr+1) with|(b,v)::_=>aL.ptr b v []|[]=>.undef)=_
      rw[show o.nr+1+U.nr=(o.nr+U.nr)+1 by omega];rfl
     rw[E] at l⊢;obtain⟨F,R,G,z,J⟩:=l;obtain⟨v,rfl⟩:∃v,F=[v]:=by obtain⟨⟨v,e,_⟩,_⟩:=z;exact⟨v,e⟩
     obtain⟨rfl,rfl⟩:=MY G;obtain⟨c,q⟩:=C n J;refine⟨⟨by simp[yF,c.1],λi L y d g=>?_⟩,?_⟩
     .cases i with
      | zero =>
        obtain rfl:=aG d;obtain rfl:=aG g;exact z
      | succ i=>exact c.2 i L y (by simpa [yF] using d) (by simpa using g)
     .rw[q];rfl
theorem Uc{b:Nat->Option bB}:∀{U:OT} {k:Nat} {u:U.den} {N M:List (Nat×Nat)},IJ b U k=some (u,N,M)->db b U (Pg U k)=some (u,N,M):=by
 intro U;induction U with
 | pair o U _ c =>
   intro k u N M h;cases o
   case dM =>
    unfold IJ at h;split at h
    .rename_i i e f d;cases h;exact w8 (p:=.dM) (q:=U) (x:=()) (N:=[]) (M:=[]) rfl (c d)
    .cases h
   all_goals
    unfold IJ at h;split at h
    .rename_i x e f y j l g d;cases h;exact w8 g (c d)
    .cases h
 | unit=>intro k u N M h;cases h;rfl
 | _=>intro k u N M h;cases h
theorem Xh:∀{a b:List (Nat×Nat)},Ov a b=true->a=b:=by
 intro a;induction a with
 | nil=>intro b h;cases b with|nil=>rfl|cons _ _=>cases h
 | cons p r c =>
   intro b h;obtain⟨x,y⟩:=p;cases b with
   | nil=>cases h
   | cons q s =>
     obtain⟨z,v⟩:=q;simp only[Ov,dv] at h;rw[eX h.1.1,eX h.1.2,c h.2]
theorem Xi:∀{n k:Nat} {p:Nat×Nat},p∈mh k n->p.2=0:=by
 intro n;induction n with
 | zero=>intro k p h;cases h
 | succ n b =>
   intro k p h;rcases gd.1 h with rfl|h
   .rfl
   .exact b h
theorem Ph:∀{a b:List Nat},a.map some=b.map some->a=b:=by
 intro a;induction a with
 | nil=>intro b h;cases b with|nil=>rfl|cons _ _=>cases h
 | cons x r c =>
   intro b h;cases b with
   | nil=>cases h
   | cons y s =>
     simp only[tq,MV,sa] at h;rw[h.1,c h.2]
theorem Ud{b:Nat->Option bB}:∀{u:aL} {vs:List Value},cf γ b w u .many vs->lz γ b w (CX u) vs:=by
 intro u;induction u with
 | mix p q f d =>
   intro vs h;obtain⟨v,r,rfl,g,j⟩:=h;have:=d j;refine⟨by simp[CX,this.1],λi k y c e=>?_⟩;cases i with
   | zero =>
     obtain rfl:=aG c;obtain rfl:=aG e;exact g
   | succ i=>exact this.2 i k y (by simpa [CX] using c) (by simpa using e)
 | nl=>intro vs h;rw[show vs=[] from h];exact⟨rfl,λi v y c=>by cases c⟩
 | _=>intro vs h;exact(show False from h).elim
theorem Ue{I:Nat->Nat->Prop}:∀{R:Ty} {y:R.den} {vs:List Value},iL w I R y vs->cf ⟨I,λ_=>none⟩ (λ_=>none) w (zj R y) .many vs:=by
 intro R;induction R with
 | pair t r d c =>
   intro y vs h;obtain⟨e,b,rfl,f,g⟩:=h;exact⟨_,b,rfl,⟨e,f,rfl⟩,c g⟩
 | unit=>intro y vs h;exact h
 | _=>intro y vs h;exact h.elim
theorem Rw{b:Nat->Option bB}{v:aL}{x:Value}(h:cf γ b w v .val [x]):lz γ b w [v] [x]:=by
 refine⟨rfl,λi e y c d=>?_⟩;cases i with
 | zero =>
   obtain rfl:=aG c;obtain rfl:=aG d;exact h
 | succ i=>cases c
theorem Uf{d:Nat->Option bB}{R:Ty}{v:aL}{c:Value}(m:cf γ d w v .val [c]) :
  ∃f,lz γ d w (CY R v) f/\∀(I:Nat->Nat->Prop) (y:R.den),iL w I R y f->kX w I R y c:=by
 have other:∀{R:Ty},(∀t,R≠.pair t .unit)->(∀y,ug R y=.yC (zj R y))->∃f,lz γ d w (match v with|.yC v=>CX v|v=>[v]) f/\∀(I:Nat->Nat->Prop) (y:R.den),iL w I R y f->kX w I R y c:=by
  intro R n g;have one:lz γ d w [v] [c]->∃f,lz γ d w [v] f/\∀(I:Nat->Nat->Prop) (y:R.den),iL w I R y f->kX w I R y c:=by
   intro i;refine⟨[c],i,λI y h=>?_⟩;exfalso;cases R with
   | pair t r =>
     obtain⟨o,j,e,_,k⟩:=h;obtain⟨_,rfl⟩:=MY e;cases r with
     | unit=>exact n t rfl
     | pair a b=>obtain⟨_,_,p,_⟩:=k;cases p
     | _=>exact k.elim
   | unit=>cases (show [c]=[] from h)
   | _=>exact h.elim
  cases v with
  | yC u =>
    obtain⟨l,i,k⟩:=m;refine⟨l.toList,Ud k,λI y h=>?_⟩;unfold kX;rw[g];exact⟨l,i,Ue h⟩
  | _=>exact one (Rw m)
 cases R with
 | pair t r =>
   cases r with
   | unit =>
     refine⟨[c],by cases v<;>exact Rw m,λI y h=>?_⟩;obtain⟨o,j,e,i,k⟩:=h;obtain⟨rfl,_⟩:=MY e;exact⟨o,i,rfl⟩
   | _ =>
     cases v<;>exact other (λq e=>by cases e) (λy=>rfl)
 | _ =>
   cases v<;>exact other (λq e=>by cases e) (λy=>rfl)
theorem Bw(adW:P.follows .mixedOrders=true)(hc:fv P cx){G:fD}(W0:pC P G cx)(O:Nr cx){Y:Nat->td}{n f:Nat}{ps:List Bool}{A:Ty}{U:OT}{R:Ty}{S:A.den×U.den->Option (R.den×U.den)}
  {fn:Func} {T:Code} (hfn:find cx.fns f=some fn) (m:fn.body=some T) (h:∀x y,S x=some y->WN cx n Y f ps A U R x=some y):eQ P G f ⟨ps,A,U,R,S⟩ where
 body:=by
  have hok:=O f fn hfn;simp only[T8,m,dv,j7] at hok;exact⟨fn,T,hc.fns f fn hfn,hok.1,m⟩
 calls:=by
  intro I w args lu j l x u y hI hG hGb Z s hnd afn;have hs:=h (x,u) y afn;unfold WN at hs;obtain⟨r,h1,W⟩:=bind_some hs;obtain⟨v,dO⟩:=r;obtain⟨y1,y2⟩:=y;have hg:∃bC M,kS (jk dO) R (CY R v)=some (y1,bC)/\IJ bC.mem U 0=some (y2,mh 0 U.nr,M)/\(bo (mh 0 U.nr) M).Nodup/\(bo (mh 0 U.nr)<|pR 0 U.nb).Nodup:=by
   dsimp only at W;split at W
   .rename_i y' bC hy';split at W
    .rename_i u' N M hu';obtain⟨h3,h4⟩:=ay W;simp only[dv] at h3;obtain rfl:=Xh h3.1.1;cases h4;exact⟨bC,M,hy',hu',E0.1 h3.1.2,E0.1 h3.2⟩
    .cases W
   .cases W
  obtain⟨bC,M1,hg1,hg2,hd1,VJ⟩:=hg;have hlen:=s.len;have C:iX ⟨I,JJ (mh 0 U.nr) (pR 0 U.nb) j l⟩ (mh 0 U.nr) j:=ab3 VJ (by rw[JK,hlen.1]);have hLs:p8 ⟨I,JJ (mh 0 U.nr) (pR 0 U.nb) j l⟩ (pR 0 U.nb) l:=ab2 VJ (by rw[JL,hlen.2]);have OK:F9 (iV U u (mh 0 U.nr)<|pR 0 U.nb) U u (mh 0 U.nr) (pR 0 U.nb):=QV JK JL VJ λc X D=>D;have E:∀{c X},iV U u (mh 0 U.nr) (pR 0 U.nb) c=some X->_:=λ{c X} D=>Nb (γ:=⟨I,JJ (mh 0 U.nr) (pR 0 U.nb) j l⟩) s C hLs OK D;have hm:bu ⟨w.heap.size,(·∈cO j l),G⟩ ⟨I,JJ (mh 0 U.nr) (pR 0 U.nb) j l⟩ (iV U u (mh 0 U.nr)<|pR 0 U.nb) w :=
   { cT:=λb Q g=>by
      obtain⟨o,h1,W⟩:=hG b Q g;refine⟨λd=>?_,o,h1,W⟩;have:=(va.1 h1).1;rcases d with d|d
      .exact absurd this (by have hb':w.heap.size<=b:=d;omega)
      .exact hGb b Q g d
     base:=bZ _
     boxes:=λb X d=>(E d).1
     inj:=λb c i k k' d D e1 e2=>by
      obtain⟨X,F⟩:=YM.1 d;obtain⟨cx',hcx⟩:=YM.1 D;exact Z9 C hLs hnd (pg F) (pg hcx) e1 e2
     fresh:=λb i k d e1=>by
      obtain⟨X,F⟩:=YM.1 d;obtain⟨_,_,g⟩:=E F;obtain⟨g1,⟨z,g2⟩,_⟩:=g i k e1;exact⟨.inr g1,(va.1 g2).1⟩
     sg:=hI
     sep:=λb X i k off d e1 hi=>by
      obtain⟨_,_,g⟩:=E d;exact absurd hi ((g i k e1).2.2 off) }
  have J:=VH (γ:=⟨I,JJ (mh 0 U.nr) (pR 0 U.nb) j l⟩) s C hLs OK;obtain⟨hv,K⟩:=Ub (γ:=⟨I,JJ (mh 0 U.nr) (pR 0 U.nb) j l⟩) Z J;rw[K] at J;obtain⟨_,L⟩:=Gl adW hc W0 O n 0 f ⟨w.heap.size,(·∈cO j l),G⟩ ⟨I,JJ (mh 0 U.nr) (pR 0 U.nb) j l⟩ (iV U u (mh 0 U.nr)<|pR 0 U.nb) dO w (yF ps U A x 0) args v rfl hm hv h1;refine L.mono λe w' hw=>?_;obtain⟨val,bM,rfl,m1,x1,r1⟩:=hw;obtain⟨xs,u1,u2⟩:=Uf (R:=R) r1;have ahs:cM ⟨w.heap.size,(·∈cO j l),G⟩ 0 bM (jk dO) { tmps:=#[],defers:=[] } w' :=
   { slots:=λt=>⟨_,rfl⟩
     size:=rfl
     defers:=rfl
     ok:=m1 }
  obtain⟨γ2,s1,s2,s3⟩:=rF ahs u1 hg1;have xx:=x1.trans s2;obtain⟨bs',k1,k2,k3⟩:=Nc s1.ok (J.ext xx) (Uc hg2);have hbs:bs'=j:=by
   unfold iX at k1 C;have:(mh 0 U.nr).map (λp=>(γ2.loc p.1).map (·.1))=(mh 0 U.nr).map (λp=>(JJ (mh 0 U.nr) (pR 0 U.nb) j l p.1).map (·.1)):=by
    refine Il λp hp=>?_;obtain⟨si,j1,j2,_⟩:=k3 p (mI _ hp);obtain⟨bx0,F⟩:=E2 (u:=u) (JK (k:=0) (n:=U.nr)) (JL (k:=0) (n:=U.nb)) (mI _<|se.2 ⟨p,hp,rfl⟩);obtain⟨Nn,q1,q2,q3⟩:=xx.boxes _ bx0 F;rw[j1] at q1;obtain rfl:=aG q1;have hp0:p.2=0:=Xi hp;rw[(q3<|by omega).1]
   rw[this,C] at k1;exact(Ph k1).symm
  subst hbs;refine⟨val,γ2.I,_,rfl,xx.below,xx.I,s1.ok.sg,λb o hi hn=>(xx.ox b o hi).resolve_left hn,u2 _ _ s3,k2,Ga s1.ok k1 k3 hd1,λi d=>?_⟩;obtain⟨b,k,⟨X,j1⟩,j2⟩:=Ng k1 k3 (blk:=i) (by unfold cO at d⊢;exact nC _ (by simpa using d));rcases(s1.ok.fresh b i k (by rw[j1];simp) j2).1 with q|q
  .exact .inr q
  .exact .inl q
end
end Go.Ge
namespace Go.Ge
open RowKit ChangeShapes
def qN{α:Type}(f:α->Nat):List α->Nat
 | []=>0
 | x::r=>f x+qN f r
def Ty.bulk:(t:Ty)->t.den->Nat
 | .int _,_=>1
 | .bool,_=>1
 | .str,s=>List.length (α:=UInt8) s+1
 | .slice e,l=>qN e.bulk l+1
 | .arr _ e,l=>qN e.bulk l
 | .pair a b,x=>a.bulk x.1+b.bulk x.2
 | .unit,_=>0
 | .alt _ _ _,_=>0
 | .za,_=>0
def Ty.Bx:Ty->Bool
 | .slice e=>e.Bx
 | .arr _ e=>e.Bx
 | .pair a b=>a.Bx&&b.Bx
 | .alt _ _ _=>false
 | .za=>false
 | _=>true
structure JM {H:Type} (bulk:DataW H->Nat) (all:List (DataW H)->Nat):Prop where
 lit:∀l,1<=bulk (.lit l)
 str:∀s,bulk (.lit<|.string s)=s.length+1
 nil:1<=bulk .nil
 slice:∀e s,bulk (.slice e s)=all e+all s+1
 agg:∀p,bulk (.agg p)=all p+1
 none:all []=0
 cons:∀d r,all (d::r)=bulk d+all r
theorem AH{α c:Type}{f:α->Option c}:∀{l:List α} {ys:List c},l.mapM f=some ys->ys.length=l.length/\∀(i:Nat) x,l[i]?=some x->f x=ys[i]?:=by
 intro l;induction l with
 | nil=>intro ys h;obtain rfl:=aG (show some []=some ys by simpa using h);exact⟨rfl,λi x b=>by cases b⟩
 | cons a l d =>
   intro ys h;rw[Vv] at h;obtain⟨y,e,g⟩:=A7.1 h;obtain⟨j,k,m⟩:=A7.1 g;obtain rfl:y::j=ys:=aG m;obtain⟨n,o⟩:=d k;refine⟨by simp[n],λi x b=>?_⟩;cases i with
   | zero=>obtain rfl:=aG b;exact e
   | succ i=>exact o i x (by simpa using b)
theorem Gm{α e:Type}{R:Nat->α->e->Prop}:∀{ys:List e} {k:Nat},(∀i y,ys[i]?=some y->∃x,R (k+i) x y)->∃d:List α,d.length=ys.length/\∀i x y,d[i]?=some x->ys[i]?=some y->R (k+i) x y:=by
 intro ys;induction ys with
 | nil=>intro k _;exact⟨[],rfl,λi x y h=>by cases h⟩
 | cons y ys f =>
   intro k h;obtain⟨x,g⟩:=h 0 y rfl;obtain⟨d,j,l⟩:=f (k:=k+1) λi y m=>by
    have:=h (i+1) y (by simpa using m)
    rwa [show k+(i+1)=k+1+i by omega] at this
   refine⟨x::d,by simp[j],λi n o b c=>?_⟩;cases i with
   | zero=>obtain rfl:=aG b;obtain rfl:=aG c;exact g
   | succ i =>
     rw[show k+(i+1)=k+1+i by omega];exact l i n o (by simpa using b) (by simpa using c)
theorem VP{α c:Type}{f:α->Nat}{g:c->Nat}:∀{b:List α} {ys:List c},b.length=ys.length->(∀(i:Nat) x y,b[i]?=some x->ys[i]?=some y->f x<=g y)->qN f b<=qN g ys:=by
 intro b;induction b with
 | nil=>intro ys _ _;exact mK _
 | cons x b e =>
   intro ys d h;cases ys with
   | nil=>cases d
   | cons y ys =>
     have l:=h 0 x y rfl rfl;have m:=e (ys:=ys) (by simpa using d) λi x y j k=>h (i+1) x y (by simpa using j) (by simpa using k);simp only[qN];omega
section
variable {H:Type} {enc:TypeId×Value->H} {P:Program} {w:World} {held:Bool} {bulk:DataW H->Nat} {all:List (DataW H)->Nat}
theorem VQ(b:JM bulk all){c:Type}(f:c->DataW H):∀l:List c,all (l.map f)=qN (λy=>bulk (f y)) l:=by
 intro l;induction l with
 | nil=>exact b.none
 | cons y l d=>rw[tq,b.cons,d];rfl
def old(w:World):Nat->Nat->Prop:=λb _=>b<w.heap.size
theorem Gn{a:Addr}{n:Nat}{b:List Value}(h:w.cells? 0 a n=some b):b.length=n/\∀j,j<n->w.cell? (a.add j)=b[j]?:=by
 unfold World.cells? at h;rw[aV<|mK _] at h;obtain⟨c,d⟩:=AH h;refine⟨by simpa using c,λj e=>d j j ?_⟩;simp[e]
theorem Rx{b o:Nat}{v:Value}{d:Option Nat}(h:w.cell? ⟨b,o,d⟩=some v):b<w.heap.size/\d=none:=by
 unfold World.cell? at h;split at h
 .rename_i c t f e;refine⟨(va.1 e).1,?_⟩;split at h
  .cases h
  .rename_i g;cases d with
   | none=>rfl
   | some s=>exact absurd rfl g
 .cases h
theorem aaa(q:JM bulk all):∀{t:Ty},t.Bx=true ->
  (∀{fuel tid:Nat} {cs:List Value} {d:DataW H} {ps:List MemPlace},Den P t tid->DataW.trod enc P w 0 (λ_=>true) held fuel tid cs=some (d,ps)->∃x:t.den,bD w (old w) t x cs/\t.bulk x<=bulk d) /\
  (∀{fuel off:Nat} {G:List Field} {cs:List Value} {l:List (DataW H×List MemPlace)},pS P t off G->(G.mapM λf=>DataW.trod enc P w 0 (λ_=>true) held fuel f.type ((cs.drop f.offset).take<|P.cellsOf f.type))=some l ->
   cs.length=off+t.size->∃x:t.den,bD w (old w) t x (cs.drop off)/\t.bulk x<=all (l.map (·.1))):=by
 intro t;induction t with
 | int k =>
   intro c;refine⟨λ{fuel tid cs d ps} hd h=>?_,λhd=>by simp[pS,eZ] at hd⟩;cases fuel with
   | zero=>cases h
   | succ fuel =>
     simp only[DataW.trod,hd.int] at h;split at h<;>first|(exfalso;simp_all;done)|skip
     rename_i k0 k' n hk;split at h
     .rename_i I;obtain⟨rfl,rfl⟩:=bk (aG h);injection hk with hk;injection hk with hk;subst hk
      obtain⟨rfl,L⟩:=I;simp only[Lit.wf,dv,nE] at L;exact⟨(n:Int),⟨rfl,L.1,L.2⟩,q.lit _⟩
     .cases h
 | bool =>
   intro c;refine⟨λ{fuel tid cs d ps} hd h=>?_,λhd=>by simp[pS,eZ] at hd⟩;cases fuel with
   | zero=>cases h
   | succ fuel =>
     simp only[DataW.trod,hd.bool] at h;split at h<;>first|(exfalso;simp_all;done)|skip
     rename_i b _;obtain⟨rfl,rfl⟩:=bk (aG h);exact⟨b,rfl,q.lit _⟩
 | str =>
   intro c;refine⟨λ{fuel tid cs d ps} hd h=>?_,λhd=>by simp[pS,eZ] at hd⟩;cases fuel with
   | zero=>cases h
   | succ fuel =>
     simp only[DataW.trod,hd.str] at h;split at h<;>first|(exfalso;simp_all;done)|skip
     rename_i s _;split at h
     .rename_i hs;obtain⟨rfl,rfl⟩:=bk (aG h);refine⟨s.data.toList,⟨?_,?_⟩,?_⟩
      .rfl
      .have:List.length (α:=UInt8) s.data.toList=s.size:=Ip;rw[this];exact hs
      .rw[q.str];exact bZ _
     .cases h
 | slice e O =>
   intro c;have O:=O c;refine⟨λ{fuel tid cs d ps} hd h=>?_,λhd=>by simp[pS,eZ] at hd⟩;obtain⟨WE,h1,Q,h3,h4⟩:=hd.slice;cases fuel with
   | zero=>cases h
   | succ fuel =>
     simp only[DataW.trod,h1] at h;split at h<;>first|(exfalso;simp_all;done)|skip
     .obtain⟨rfl,rfl⟩:=bk (aG h);exact⟨([]:List e.den),.inl ⟨⟨none,rfl⟩,rfl⟩,q.nil⟩
     .rename_i e' a S z he;injection he with he;injection he with he;subst he
      split at h
      case isFalse=>cases h
      rename_i I;obtain⟨hc1,hc2,hc3⟩:=I;obtain⟨m,J,T⟩:=A7.1 h;obtain⟨rest,g3,g4⟩:=r9.1 T;obtain⟨rfl,rfl⟩:=bk g4;simp only[kQ] at g3;obtain⟨X,Y⟩:=AH J;obtain⟨m1,m2⟩:=AH g3;simp only[Y6] at X m1;rw[Q.cells] at Y m2;by_cases adN:z=0
      .subst adN;obtain rfl:S=0:=by omega
       exact⟨([]:List e.den),.inl ⟨⟨some a,rfl⟩,rfl⟩,by rw[q.slice];simp[Ty.bulk,qN]⟩
      ·
       have hat:∃y,(w.cells? 0 a e.size).bind (DataW.trod enc P w 0 (λ_=>true) held fuel WE)=some y:=by
        by_cases hlen:S=0
        .have:=m2 0 0 (Qo<|by omega);have o:0<rest.length:=by omega
         rw[gH o] at this;rw[hlen] at this;simp only[qI,MZ] at this;exact⟨_,by rw[<-this];simp[Addr.add]⟩
        .have:=Y 0 0 (Qo<|by omega);have o:0<m.length:=by omega
         rw[gH o] at this;simp only[MZ] at this;exact⟨_,by rw[<-this];simp[Addr.add]⟩
       obtain⟨y,C⟩:=hat;obtain⟨Z,hes,_⟩:=A7.1 C;obtain⟨z1,z2⟩:=Gn hes;have z3:=z2 0 h4;rw[gH<|by omega] at z3;have p:a.spot=none:=by
        have:a.add 0=a:=by simp[Addr.add]
        rw[this] at z3;obtain⟨D,off,sp⟩:=a;exact(Rx z3).2
       obtain⟨D,off,sp⟩:=a;dsimp only at p;subst p;obtain⟨l,E,K⟩:=Gm (R:=λi (x:e.den) (y:DataW H×List MemPlace)=>(∃Z:List Value,Z.length=e.size /\
         (∀(j:Nat) v,Z[j]?=some v->w.cell? ⟨D,off+i*e.size+j,none⟩=some v/\old w D (off+i*e.size+j))/\bD w (old w) e x Z)/\e.bulk x<=bulk y.1) (ys:=m) (k:=0) λi y hi=>by
        have o:=(fU.1 hi).1;have:=Y i i (Qo<|by omega);rw[hi] at this;obtain⟨Z,q1,q2⟩:=A7.1 this;rw[addr_add] at q1;obtain⟨q3,q4⟩:=Gn q1;obtain⟨x,r1,r2⟩:=O.1 (d:=y.1) (ps:=y.2) Q q2;refine⟨x,⟨Z,q3,λj v hv=>?_,r1⟩,r2⟩;have hj:=(fU.1 hv).1;have:=q4 j (by omega);rw[addr_add,hv] at this;rw[qI];exact⟨this,(Rx this).1⟩
       refine⟨l,.inr ⟨D,off,z,?_,?_,hc3,λi x U=>?_⟩,?_⟩
       .show [Value.slice _ S z]=[Value.slice _ (List.length (α:=e.den) l) z]
        rw[E,X]
       .show List.length (α:=e.den) l<=z
        rw[E,X];exact hc2
       .have A:l[i]?=some x:=U;have o:=(fU.1 A).1;obtain⟨y,C⟩:∃y,m[i]?=some y:=⟨_,gH (by omega)⟩;have:=(K i x y A C).1;rw[qI] at this;exact this
       .rw[q.slice,VQ q];have:=VP (f:=e.bulk) (g:=λy:DataW H×List MemPlace=>bulk y.1) E λi x y U C=>(K i x y U C).2;show qN e.bulk l+1<=_
        omega
 | arr n e O =>
   intro c;have O:=O c;refine⟨λ{fuel tid cs d ps} hd h=>?_,λhd=>by simp[pS,eZ] at hd⟩;obtain⟨WE,h1,Q,h4⟩:=hd.arr;cases fuel with
   | zero=>cases h
   | succ fuel =>
     simp only[DataW.trod,h1] at h;split at h
     case isFalse=>cases h
     rename_i I;obtain⟨ys,J,T⟩:=r9.1 h;obtain⟨rfl,rfl⟩:=bk T;obtain⟨X,Y⟩:=AH J;simp only[Y6] at X;rw[Q.cells] at Y;obtain⟨l,E,K⟩:=Gm (R:=λi (x:e.den) (y:DataW H×List MemPlace)=>bD w (old w) e x ((cs.drop<|i*e.size).take e.size)/\e.bulk x<=bulk y.1) (ys:=ys) (k:=0) λi y hi=>by
      have o:=(fU.1 hi).1;have:=Y i i (Qo<|by omega);rw[hi] at this;obtain⟨x,r1,r2⟩:=O.1 (d:=y.1) (ps:=y.2) Q this;exact⟨x,by rw[qI];exact r1,r2⟩
     refine⟨l,⟨?_,?_,λi x U=>?_⟩,?_⟩
     .show List.length (α:=e.den) l=n
      rw[E,X]
     .rw[I,hd.cells];rfl
     .have A:l[i]?=some x:=U;have o:=(fU.1 A).1;obtain⟨y,C⟩:∃y,ys[i]?=some y:=⟨_,gH (by omega)⟩;have:=(K i x y A C).1;rw[qI] at this;exact this
     .rw[q.agg,VQ q];have:=VP (f:=e.bulk) (g:=λy:DataW H×List MemPlace=>bulk y.1) E λi x y U C=>(K i x y U C).2;show qN e.bulk l<=_
      omega
 | pair a b F W =>
   intro c;simp only[Ty.Bx,dv] at c;have F:=F c.1;have W:=W c.2;have chain:∀{fuel off:Nat} {G:List Field} {cs:List Value} {l:List (DataW H×List MemPlace)},pS P (.pair a b) off G->(G.mapM λf=>DataW.trod enc P w 0 (λ_=>true) held fuel f.type ((cs.drop f.offset).take<|P.cellsOf f.type))=some l ->
     cs.length=off+(Ty.pair a b).size->∃x:(Ty.pair a b).den,bD w (old w) (.pair a b) x (cs.drop off)/\(Ty.pair a b).bulk x<=all (l.map (·.1)):=by
    intro fuel off G cs l hd h hl;obtain⟨f,r,rfl,f1,_,f2,f3,f4⟩:=hd.cons;rw[Vv] at h;obtain⟨y,J,T⟩:=A7.1 h;obtain⟨ys,g3,g4⟩:=A7.1 T;obtain rfl:y::ys=l:=aG g4;rw[f1,f2.cells] at J;obtain⟨E,p1,p2⟩:=F.1 (d:=y.1) (ps:=y.2) f2 J;obtain⟨K,q1,q2⟩:=W.2 f4 g3 (by simp only[Ty.size] at hl;omega);refine⟨(E,K),⟨_,_,?_,p1,q1⟩,?_⟩
    .rw[<-vb,vV]
    .rw[tq,q.cons];show a.bulk E+b.bulk K<=_
     omega
   refine⟨λ{fuel tid cs d ps} hd h=>?_,chain⟩;obtain⟨G,h1,Q,_⟩:=hd.pair;cases fuel with
   | zero=>cases h
   | succ fuel =>
     simp only[DataW.trod,h1] at h;split at h
     case isFalse=>cases h
     rename_i I;obtain⟨ys,J,T⟩:=r9.1 h;obtain⟨rfl,rfl⟩:=bk T;rw[hd.cells] at I;obtain⟨x,r1,r2⟩:=chain Q J (by rw[I,qI]);exact⟨x,by simpa using r1,by rw[q.agg];omega⟩
 | alt u a r F ihr=>intro c;cases c
 | za=>intro c;cases c
 | unit =>
   intro c;refine⟨λhd=>by simp[Den,eZ] at hd,λ{fuel off G cs l} hd h hl=>?_⟩;exact⟨(),by show cs.drop off=[];rw[List.drop_eq_nil_iff];simp[Ty.size] at hl;omega,mK _⟩
end
end Go.Ge
