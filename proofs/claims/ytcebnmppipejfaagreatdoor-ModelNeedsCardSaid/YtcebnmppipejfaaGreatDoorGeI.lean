import Derived.Test.YtcebnmppipejfaaGreatDoorGeH
import Derived.Scope
import Derived.Laws.Sem
import Derived.ProofKit
set_option linter.unusedVariables false
set_option linter.unusedSimpArgs false
set_option linter.unusedSectionVars false
namespace Go.Ge
open RowKit
section
variable {P:Program} {B:qA} {N:Nat} {γ γ0:Gh} {w w0:World} {Ce ve:St} {a a0:Act} {M:Nat->Bool} {V:Nat->Bool->Bool}
theorem acm:∀{l:List (Nat×Sh)} {x:(tyS l).den},ad4 V Ce ve l=some x->∀t,(Qo M V l x t=none/\∀s,(t,s)∉l)\/∃s y,(t,s)∈l/\Sh.out V Ce ve s (ve.slots t)=some y/\Qo M V l x t=some (s.pn M V y):=by
 intro l;induction l with
 | nil=>intro x _ t;exact .inl ⟨rfl,λs h=>by cases h⟩
 | cons p r g =>
   obtain⟨i,s⟩:=p;intro x h t;simp only[ad4] at h;split at h
   .rename_i y z j k;obtain rfl:=aE h;by_cases e:t=i
    .subst e;refine .inr ⟨s,y,oB ..,j,?_⟩;show(bif Nat.beq t t then some (s.pn M V y) else Qo M V r z t)=_
     simp
    .have m:Nat.beq t i=false:=iF e;have n:Qo M V ((i,s)::r) ((y,z):(tyS ((i,s)::r)).den) t=Qo M V r z t:=by
      show(bif Nat.beq t i then some (s.pn M V y) else Qo M V r z t)=_
      rw[m];rfl
     rw[n];rcases g k t with ⟨c,d⟩|⟨f,o,c,d,q⟩
     .refine .inl ⟨c,λf b=>?_⟩;rcases fY.1 b with b|b
      .exact e (dz b).1
      .exact d f b
     .exact .inr ⟨f,o,oA _ c,d,q⟩
   .cases h
theorem Dd{f g:Bool}{d b:Box}(h:HH f g d b=true):(d.ro=true->(b.ro||f)=true)/\d.buf=b.buf/\(g=false->d.aI=b.aI):=by
 simp only[HH,dF,x7,XU] at h;obtain⟨⟨⟨e,l⟩,i⟩,c⟩:=h;refine⟨λj=>by rcases e with e|e<;>simp[e,<-j],i,λk=>?_⟩;rcases c with c|c
 .rw[k] at c;cases c
 .exact eT c
theorem Zv{d e:Bool}{c b:Box}(h:HH d e c b=true):c.tid=b.tid:=by
 simp only[HH,dF] at h;exact eT h.1.1.2
theorem TI{c:Bool}:∀{l:List (Nat×Sh×Box)} {x:(tyM l).den},ad5 V c Ce ve l=some x->∀t,(KA c M V l x t=none/\uj l t=false) \/
  ∃s b y f,uj l t=true/\(t,s,b)∈l/\ve.mem t=some f/\HH c (V t b.buf) f b=true/\Sh.out V Ce ve s f.val=some y/\KA c M V l x t=some { b with val:=s.pn M V y,ro:=b.ro||c,aI:=bif V t b.buf then b.aI+1 else b.aI }:=by
 intro l;induction l with
 | nil=>intro x _ t;exact .inl ⟨rfl,rfl⟩
 | cons p r o =>
   obtain⟨i,s,b⟩:=p;intro x h t;simp only[ad5] at h;split at h
   .rename_i f g;cases d:HH c (V i b.buf) f b with
    | false=>rw[d] at h;cases h
    | true =>
      rw[d] at h;simp only[eG] at h;split at h
      .rename_i y z q u;obtain rfl:=aE h;by_cases e:t=i
       .subst e;refine .inr ⟨s,b,y,f,by simp[uj],oB ..,g,d,q,?_⟩;show(bif Nat.beq t t then some { b with val:=s.pn M V y,ro:=b.ro||c,aI:=bif V t b.buf then b.aI+1 else b.aI } else KA c M V r z t)=_
        simp
       .have n:Nat.beq t i=false:=iF e;have v:KA c M V ((i,s,b)::r) ((y,z):(tyM ((i,s,b)::r)).den) t=KA c M V r z t:=by
         show(bif Nat.beq t i then some { b with val:=s.pn M V y,ro:=b.ro||c,aI:=bif V t b.buf then b.aI+1 else b.aI } else KA c M V r z t)=_
         rw[n];rfl
        have j:uj ((i,s,b)::r) t=uj r t:=by simp only[uj,n,B6]
        rw[v,j];rcases o u t with k|⟨A,C,D,m,E,F,G⟩
        .exact .inl k
        .exact .inr ⟨A,C,D,m,E,oA _ F,G⟩
      .cases h
   .cases h
structure Bs (k:Carry) (Ce:St):Prop where
 S:∀t s,(t,s)∈k.S->Lr s (Ce.slots t)
 M:∀b s bx,(b,s,bx)∈k.M->Ce.mem b=some bx/\Lr s bx.val/\bx.lk=false
 V:∀b x,k.V b false=true->Ce.mem b=some x->x.buf=false
theorem age{o:Ctx}{j:St}:∀{p:List (Nat×Nat)} {l:List (Nat×Sh)},mkS o j p=some l->∀t s,(t,s)∈l->Lr s (j.slots t):=by
 intro p;induction p with
 | nil=>intro l h t s c;obtain rfl:=aE h;cases c
 | cons q r n =>
   obtain⟨i,u⟩:=q;intro l h t s c;simp only[mkS] at h;split at h
   .cases h
   .rename_i x f;have fin:∀m,Lr m (j.slots i)->some ((i,m)::x)=some l->Lr s (j.slots t):=by
     intro m y e;obtain rfl:=aE e;rcases fY.1 c with c|c
     .obtain⟨rfl,rfl⟩:=dz c;exact y
     .exact n f t s c
    cases g:Nat.beq u 999999 with
    | true =>
      rw[g] at h;simp only[eG] at h;split at h
      .rename_i b v z;exact fin (.k _) z.symm h
      .obtain rfl:=aE h;exact n f t s c
    | false =>
    rw[g] at h;simp only[iD] at h;split at h
    .exact fin (.d _) trivial h
    .split at h
     .exact fin (.d _) trivial h
     .cases h
    .split at h
     .exact fin (.d _) trivial h
     .cases h
    .exact fin (.k _) rfl h
theorem acn{j:St}:∀{p:List Nat} {l:List (Nat×Sh×Box)},mkM j p=some l->∀b s d,(b,s,d)∈l->j.mem b=some d/\Lr s d.val/\d.lk=false:=by
 intro p;induction p with
 | nil=>intro l h b s d c;obtain rfl:=aE h;cases c
 | cons i r k =>
   intro l h b s d c;simp only[mkM] at h;split at h
   .rename_i f t m g;cases e:f.lk with
    | true=>rw[e] at h;cases h
    | false =>
      rw[e] at h;obtain rfl:=aE h;rcases fY.1 c with c|c
      .injection c with n c
       injection c with o q
       subst n;subst o;subst q;exact⟨m,aet _,e⟩
      .exact k g b s d c
   .cases h
theorem yn{e:Ctx}{f:Nat}{g:List Nat}{c:St}{p:D9}{k:Carry}(h:JQ e f g c p=some k):Bs k c:=by
 unfold JQ at h;split at h
 .rename_i s m i j;obtain rfl:=aE h;refine⟨age i,acn j,λb x d l=>?_⟩;simp only[iD,ahc,l,dF,kS] at d;exact d.2.1
 .cases h
theorem aeu{l:List (Nat×Sh×Box)}{b:Nat}(h:uj l b=true):∃s c,(b,s,c)∈l:=by
 induction l with
 | nil=>cases h
 | cons p r e =>
   obtain⟨i,s,c⟩:=p;simp only[uj,x7] at h;rcases h with h|h
   .obtain rfl:=eT h;exact⟨s,c,oB ..⟩
   .obtain⟨f,d,g⟩:=e h;exact⟨f,d,oA _ g⟩
theorem rT{k:Carry}{O lock:Bool}{wr:List Nat}{x:k.ty.den}(hk:Bs k Ce)(h0:cQ B N γ0 Ce a0 w0)(F:cQ B N γ ve a w)(hx:Ext B γ0 Ce.mem w0 γ ve.mem w)
  (hf:∀t,cK wr t=false->a.tmps[t]?=a0.tmps[t]?) (A:∀b f,Ce.mem b=some f->uj k.M b=false->∃bl,ve.mem b=some { f with lk:=bl }) (ho:k.out O Ce ve=some x) :
  cQ B N γ (k.pn O lock wr Ce x) a w/\Ext B γ0 Ce.mem w0 γ (k.pn O lock wr Ce x).mem w:=by
 unfold Carry.out at ho;split at ho
 case h_2=>cases ho
 rename_i xs xm hxs hxm;obtain rfl:=aE ho;generalize R:k.pn O lock wr Ce (xs,xm)=bA;have W:∀t,bA.slots t=match Qo (uj k.M) k.V k.S xs t with|some v=>v|none=>bif cK wr t then .undef else Ce.slots t:=λt=>by rw[<-R];rfl
 have T:∀b,bA.mem b=match KA O (uj k.M) k.V k.M xm b with|some f=>some f|none=>match Ce.mem b with|some f=>some { f with lk:=f.lk||lock }|none=>none:=λb=>by rw[<-R];rfl
 have C:∀b,uj k.M b=false->bA.mem b=match Ce.mem b with|some f=>some { f with lk:=f.lk||lock }|none=>none:=by
  intro b g;rw[T b];rcases TI (M:=uj k.M) hxm b with ⟨q,_⟩|⟨s,b',y,f,q,_⟩
  .rw[q]
  .rw[g] at q;cases q
 have here:∀b,uj k.M b=true->∃s m y f,Ce.mem b=some m/\Lr s m.val/\ve.mem b=some f/\HH O (k.V b m.buf) f m=true/\Sh.out k.V Ce ve s f.val=some y /\
   bA.mem b=some { m with val:=s.pn (uj k.M) k.V y,ro:=m.ro||O,aI:=bif k.V b m.buf then m.aI+1 else m.aI }:=by
  intro b g;rcases TI (M:=uj k.M) hxm b with ⟨_,q⟩|⟨s,m,y,f,q,q1,q2,q3,q4,q5⟩
  .rw[g] at q;cases q
  .obtain⟨X,k2,_⟩:=hk.M b s m q1;exact⟨s,m,y,f,X,k2,q2,q3,q4,by rw[T b,q5]⟩
 have D:∀b f,ve.mem b=some f->f.buf=true->∃e l,f.val=.data (.slice e) l:=by
  intro b f g J;have:=F.ok.boxes b f g;rw[cJ,J] at this;obtain⟨e,l,q,_⟩:=this;exact⟨e,l,q⟩
 have hC:aci (uj k.M) k.V Ce.mem ve.mem bA.mem:=by
  intro b d g;cases i:uj k.M b with
  | false =>
    obtain⟨bl,E⟩:=A b d g i;have r:=C b i;rw[g] at r;exact⟨_,_,E,r,rfl,rfl,rfl,by simp,λ_=>rfl⟩
  | true =>
    obtain⟨s,m,y,f,Y,g2,U,g4,g5,Z⟩:=here b i;rw[g] at Y;obtain rfl:=aE Y;obtain⟨o1,o2,o3⟩:=Dd g4;obtain⟨r1,r2⟩:=X8 (M:=uj k.M) (V:=k.V) (Pr:={ d with val:=s.pn (uj k.M) k.V y,ro:=d.ro||O,aI:=bif k.V b d.buf then d.aI+1 else d.aI }) g5 rfl o2.symm (D b f U);refine⟨f,_,U,Z,o2,rfl,r1,by simp,λG=>o3 ?_⟩;simpa using G
 have hE:Ext B γ0 Ce.mem w0 γ bA.mem w :=
  { below:=hx.below
    I:=hx.I
    pC:=hx.pC
    cells:=hx.cells
    boxes:=λb d g=>by
     obtain⟨Q,Pr,c1,c2,c3,c4,c5,c6,c7⟩:=hC b d g;obtain⟨ama,e1,e2,e3⟩:=hx.boxes b d g;rw[c1] at e1;obtain rfl:=aE e1;cases G:(uj k.M b&&k.V b d.buf) with
     | true =>
       rw[G] at c6;simp only[eG] at c6;exact⟨Pr,c2,by omega,λe=>absurd e (by omega)⟩
     | false =>
       rw[G] at c6;simp only[iD] at c6;obtain⟨r1,r2,r3⟩:=e3 (c7 G);exact⟨Pr,c2,by omega,λ_=>⟨r1,c4,c5.trans r3⟩⟩ }
 refine⟨⟨λt=>?_,F.size,F.defers,?_⟩,hE⟩
 .rw[W t];rcases acm (M:=uj k.M) hxs t with ⟨q,_⟩|⟨s,y,q1,q2,q3⟩
  .rw[q];simp only;cases hw:cK wr t with
   | true=>exact⟨_,rfl⟩
   | false =>
     have:a.tmps.getD t undef=a0.tmps.getD t undef:=by simp only[Vs,hf t hw]
     rw[this];exact(h0.slots t).ext hE
  .rw[q3];exact X7 hC hk.V (hk.S t s q1) q2 (h0.slots t) (F.slots t)
 .have hne:∀b,bA.mem b≠none->∃d,Ce.mem b=some d:=by
   intro b g;cases i:uj k.M b with
   | true=>obtain⟨s,m,y,f,Y,_⟩:=here b i;exact⟨m,Y⟩
   | false =>
     rw[C b i] at g;cases G:Ce.mem b with
     | none=>rw[G] at g;exact absurd rfl g
     | some d=>exact⟨d,rfl⟩
  have K:∀b,bA.mem b≠none->ve.mem b≠none:=by
   intro b g;obtain⟨d,r⟩:=hne b g;obtain⟨Q,Pr,c1,_⟩:=hC b d r;rw[c1];simp
  exact
   { cP:=F.ok.cP
     base:=F.ok.base
     boxes:=λb Pr g=>by
      cases i:uj k.M b with
      | true =>
        obtain⟨s,m,y,f,Y,g2,U,g4,g5,Z⟩:=here b i;rw[g] at Z;obtain rfl:=aE Z;obtain⟨o1,o2,o3⟩:=Dd g4;have o4:=Zv g4;obtain⟨r1,r2⟩:=X8 (M:=uj k.M) (V:=k.V) (Pr:={ m with val:=s.pn (uj k.M) k.V y,ro:=m.ro||O,aI:=bif k.V b m.buf then m.aI+1 else m.aI }) g5 rfl o2.symm (D b f U);have j:=F.ok.boxes b f U;have o:=h0.ok.boxes b m Y;unfold cJ at j o⊢;dsimp only at r2⊢;rcases afw f.buf with p|p
        .rw[p] at j;rw[<-o2,p,r2 p,<-o4];exact j
        .rw[p] at j;rw[<-o2,p];rw[<-o2,p] at o;obtain⟨_,_,_,_,_,_,_,_,_,z⟩:=o;obtain⟨u,cap,cur,tid,fr,z1,z2,z3,L,z4⟩:=j;exact⟨u,cap,cur,tid,fr,z1,z2,z3,o4▸L,X7 hC hk.V g2 g5 z z4⟩
      | false =>
        have r:=C b i;rw[g] at r;cases G:Ce.mem b with
        | none=>rw[G] at r;cases r
        | some d =>
          rw[G] at r;obtain rfl:=aE r;obtain⟨bl,E⟩:=A b d G i;have j:=F.ok.boxes b _ E;have o:=h0.ok.boxes b d G;unfold cJ at j o⊢;dsimp only at j⊢;rcases afw d.buf with p|p
          .rw[p] at j⊢;exact j
          .rw[p] at j o⊢;obtain⟨_,_,_,_,_,_,_,_,_,z⟩:=o;obtain⟨u,cap,cur,tid,fr,z1,z2,z3,L,z4⟩:=j;exact⟨u,cap,cur,tid,fr,z1,z2,z3,L,b5.down hC.mid z z4⟩
     inj:=λb c u X k2 g hc r h2=>F.ok.inj b c u X k2 (K b g) (K c hc) r h2
     fresh:=λb u X g r=>F.ok.fresh b u X (K b g) r
     sV:=F.ok.sV
     sep:=λb Pr u X off g r hi=>by
      obtain⟨d,q0⟩:=hne b (by rw[g];simp);obtain⟨Q,amb,c1,c2,c3,c4,c5,c6,c7⟩:=hC b d q0;rw[g] at c2;obtain rfl:=aE c2;obtain⟨s1,s2⟩:=F.ok.sep b Q u X off c1 r hi;have hro:Q.ro=true->Pr.ro=true:=by
       cases i:uj k.M b with
       | true =>
         obtain⟨s,m,y,f,Y,g2,U,g4,g5,Z⟩:=here b i;rw[c1] at U;obtain rfl:=aE U;rw[g] at Z;obtain rfl:=aE Z;exact(Dd g4).1
       | false =>
         have r:=C b i;rw[g,q0] at r;obtain rfl:=aE r;obtain⟨bl,E⟩:=A b d q0 i;rw[c1] at E;obtain rfl:=aE E;exact λh=>h
      exact⟨hro s1,λJ e n hr=>s2 (by rw[c3,<-c4];exact J) e n (by rw[<-c5];exact hr)⟩ }
end
end Go.Ge
namespace Go.Ge
variable [Lp]
open RowKit
theorem EI{p:Nat->Prop}(h:∃n,p n):∃n,p n/\∀m,p m->n<=m:=by
 obtain⟨n,c⟩:=h;induction n using Nat.strongRecOn with
 | _ n d =>
   by_cases h:∃m,m<n/\p m
   .obtain⟨m,e,f⟩:=h;exact d m e f
   .exact⟨n,c,λm g=>Nat.le_of_not_lt λb=>h ⟨m,b,g⟩⟩
open Classical in
noncomputable def least(p:Nat->Prop):Nat:=if h:∃n,p n then Classical.choose (EI h) else 0
theorem Ls{p:Nat->Prop}(h:∃n,p n):p (least p)/\∀m,p m->least p<=m:=by
 unfold least;rw[dif_pos h];exact Nh (EI h)
theorem Gm{P:Program}{c:Code}{Q:Exit->Act->World->Prop}{a:Act}{w:World}(I:Nat->Act->World->Prop){n:Nat}(i:I n a w)
  (b:∀n a w,I n a w->c.wp P (Exit.then (λf w'=>∃m,m<n/\I m f w') Q) a w):(Code.loop c).wp P Q a w:=by
 refine wp_loop (λa w=>∃n,I n a w) (λa w=>least λn=>I n a w) ⟨n,i⟩ λa w h=>?_;obtain⟨j,k⟩:=Ls h;refine wp_mono (b _ a w j) λe f w' g=>?_;cases e with
 | normal =>
   obtain⟨m,m1,d⟩:=g;exact⟨⟨m,d⟩,Nat.lt_of_le_of_lt ((Ls ⟨m,d⟩).2 m d) m1⟩
 | _=>exact g
def Lt:Nat->Exit
 | 0=>.normal
 | 1=>.ret
 | i+2=>.exit i
theorem HY{l m:List Nat}{t:Nat}:cK (l++m) t=(cK l t||cK m t):=by
 induction l with
 | nil=>rfl
 | cons i r b=>simp only[zP,cK,b,aby]
def EJ(b:List Nat)(a c:Act):Prop:=∀t,cK b t=false->c.tmps[t]?=a.tmps[t]?
theorem EJ.refl(b:List Nat)(a:Act):EJ b a a:=λ_ _=>rfl
theorem EJ.trans{d:List Nat}{a b c:Act}(h:EJ d a b)(k:EJ d b c):EJ d a c:=λt e=>(k t e).trans (h t e)
theorem EJ.left{c e:List Nat}{a b:Act}(h:EJ c a b):EJ (c++e) a b:=λt d=>h t (by rw[HY,BK] at d;exact d.1)
theorem EJ.right{e c:List Nat}{a b:Act}(h:EJ c a b):EJ (e++c) a b:=λt d=>h t (by rw[HY,BK] at d;exact d.2)
theorem TJ{t:Nat}:∀{l:List Oper} {k:Nat},cK (pA l) t=false->mT t (number k l)=false:=by
 intro l;induction l with
 | nil=>intro k _;rfl
 | cons o l b =>
   intro k h;simp only[number,mT];cases hd:o.dst with
   | none=>simp only[pA,hd] at h;rw[b h];rfl
   | some d =>
     simp only[pA,hd,cK,BK] at h;rw[b h.2];simp only[XQ];exact iF λe=>by subst e;simp at h
theorem Q6{l:List Oper}{o:Oper}(h:o∈l){k:Nat}(c:o.dst=some k):k∈pA l:=by
 induction l with
 | nil=>cases h
 | cons p l b =>
   rcases fY.1 h with h|h
   .subst h;simp only[pA,c];exact oB ..
   .simp only[pA];split
    .exact oA _ (b h)
    .exact b h
theorem Ps{l:Type}{f:Nat->Tree l}:∀{es:List Nat} {e i:Nat},Iy es e=some i->(Eb es i f).run=(f e).run:=by
 intro es;induction es with
 | nil=>intro e i h;cases h
 | cons k r n =>
   intro e i h;simp only[Iy] at h;have one:∀{b:Bool},(bif b then some 0 else(Iy r e).map (·+1))=some i->(b=true/\i=0)\/(b=false/\∃j,Iy r e=some j/\i=j+1):=by
    intro b g;cases b with
    | true=>exact .inl ⟨rfl,(aE g).symm⟩
    | false =>
      obtain⟨j,c,d⟩:=uc.1 g;exact .inr ⟨rfl,j,c,d.symm⟩
   rcases one h with ⟨c,rfl⟩|⟨c,j,d,rfl⟩
   .obtain rfl:=eT c;cases r with
    | nil=>rfl
    | cons m s=>rfl
   .cases r with
    | nil=>cases d
    | cons m s=>exact n d
section
variable {P:Program} {B:qA} {N:Nat} {cx:Ctx} {nb:Nat} {bf:List Nat} {inl:Nat->List aK->St->Tree (aK×St)}
theorem Wg(b:∀f c σ v aV,(inl f c σ).run=some (v,aV)->bj σ aV):∀(l:List Oper) (k:Nat) (done:List zW) (σ aV:St),(Kz cx nb bf inl (number k l) done σ).run=some aV->bj σ aV:=by
 intro l;induction l with
 | nil=>intro k done σ aV h;obtain rfl:=aE h;exact bj.refl _
 | cons o l d =>
   intro k done σ aV h;simp only[number,Kz] at h;split at h
   .cases h
   .obtain⟨m,e⟩:=aw h;obtain⟨bA,g,i⟩:=bind_some e;exact(Af b bA<|Bq (λj=>JU o σ j) g).trans (d _ _ _ _ i)
theorem Zw{c:Bool}{M:Nat->Bool}{V:Nat->Bool->Bool}:∀{l:List (Nat×Sh×Box)} {x:(tyM l).den} {t:Nat},uj l t=false->KA c M V l x t=none:=by
 intro l;induction l with
 | nil=>intro x t _;rfl
 | cons p r d =>
   obtain⟨i,s,b⟩:=p;intro x t h;simp only[uj,BK] at h;simp only[KA,h.1,iD];exact d h.2
theorem TK{k:Carry}{e lock:Bool}{wr:List Nat}{d:St}{x:k.ty.den}{b:Nat}{c:Box}(f:d.mem b=some c)(h:uj k.M b=false):(k.pn e lock wr d x).mem b=some { c with lk:=c.lk||lock }:=by
 simp only[Carry.pn];rw[Zw h,f]
theorem Aj{k:Carry}{fz lock:Bool}{wr:List Nat}{c:St}{x:k.ty.den}(h:Bs k c):bj c (k.pn fz lock wr c x):=by
 intro b i e d;have:uj k.M b=false:=by
  cases j:uj k.M b with
  | false=>rfl
  | true =>
    obtain⟨s,l,m⟩:=aeu j;obtain⟨f,_,g⟩:=h.M b s l m;rw[e] at f;obtain rfl:=aE f;rw[d] at g;cases g
 rw[TK e this];cases i;simp only at d;subst d;rfl
theorem HZ{b:Type}{Q:b->Prop}{f:Nat->Tree b}(c:∀e y,(f e).run=some y->Q y):∀{es:List Nat} {i:Nat} {y:b},(Eb es i f).run=some y->Q y:=by
 intro es;induction es with
 | nil=>intro i y h;cases h
 | cons k r g =>
   intro i y h;cases r with
   | nil=>exact c k y h
   | cons m s =>
     have:=fP h;cases d:cR i 0 with
     | true=>rw[d] at this;exact c k y this
     | false=>rw[d] at this;exact g this
theorem Lu:∀{l:List Nat} {σ aV:St},Ea l σ=some aV->bj σ aV:=by
 intro l;induction l with
 | nil=>intro σ aV h;obtain rfl:=aE h;exact bj.refl _
 | cons m r b =>
   intro σ aV h;unfold Ea at h;cases c:Nat.ble 2000000 m with
   | false=>rw[c] at h;exact b h
   | true =>
     rw[c] at h;simp only[eG] at h;split at h
     .split at h
      .split at h
       .split at h
        .rename_i d;exact(oV d).trans ((bj.put _ _ _).trans<|b h)
        .cases h
       .cases h
      .cases h
     .exact b h
theorem H2{B:qA}{N:Nat}{a:Act}{w:World}:∀{l:List Nat} {σ aV:St} {γ:Gh},Ea l σ=some aV->cQ B N γ σ a w->∃bG,cQ B N bG aV a w/\Ext B γ σ.mem w bG aV.mem w:=by
 intro l;induction l with
 | nil=>intro σ aV γ h b;obtain rfl:=aE h;exact⟨γ,b,Ext.refl _ _ _ _⟩
 | cons m r d =>
   intro σ aV γ h b;unfold Ea at h;cases g:Nat.ble 2000000 m with
   | false=>rw[g] at h;exact d h b
   | true =>
     rw[g] at h;simp only[eG] at h;generalize m-2000000=k at h;split at h
     .split at h
      .split at h
       .split at h
        .rename_i x bA i;have hv:=b.slots k;obtain⟨e,c,j,n⟩:=mr b hv i;have o:cQ B N e (bA.put k<|.data (.slice _) x) a w:=⟨λt=>by
          unfold St.put;dsimp only;cases p:Nat.beq t k with
          | false=>exact c.slots t
          | true =>
            obtain rfl:=eT p;exact n,c.size,c.defers,c.ok⟩
         obtain⟨f,q,s⟩:=d h o;exact⟨f,q,j.trans s⟩
        .cases h
       .cases h
      .cases h
     .exact d h b
theorem Wh{f:St->Tree (Nat×St)}(e:∀σ r,(f σ).run=some r->bj σ r.2):∀(n:Nat) (σ:St) (r:Nat×St),(again f n σ).run=some r->bj σ r.2:=by
 intro n;induction n with
 | zero=>intro σ r h;cases h
 | succ n g =>
   intro σ r h;obtain⟨i,j,b⟩:=bind_some h;have c:=e _ _ j;cases d:Nat.beq i.1 0 with
   | true=>rw[d] at b;exact c.trans (g _ _ b)
   | false=>rw[d] at b;obtain rfl:=aE b;exact c
theorem TL{f:St->Tree (Nat×St)}(g:∀σ r,(f σ).run=some r->bj σ r.2){c:Nat}:∀(n j:Nat) (σ:St) (r:Nat×St),(FZ f c n j σ).run=some r->bj σ r.2:=by
 intro n;induction n with
 | zero=>intro j σ r h;cases h
 | succ n i =>
   intro j σ r h;unfold FZ at h;split at h
   .have h:=ck h;obtain⟨k,l,b⟩:=bind_some h.2;have d:=(bj.put σ c _).trans (g _ _ l);cases e:Nat.beq k.1 0 with
    | true=>rw[e] at b;exact d.trans (i _ _ _ b)
    | false=>rw[e] at b;obtain rfl:=aE b;exact d
   .cases h
theorem uz(g:∀f u σ v aV,(inl f u σ).run=some (v,aV)->bj σ aV):∀(c:Code) (pl:List (Option D9)) (σ:St) (r:Nat×St),(iC cx nb bf inl c pl σ).run=some r->bj σ r.2:=by
 intro c;induction c with
 | skip=>intro pl σ r h;obtain rfl:=aE h;exact bj.refl _
 | label l=>intro pl σ r h;obtain rfl:=aE h;exact bj.refl _
 | ret=>intro pl σ r h;obtain rfl:=aE h;exact bj.refl _
 | exit i=>intro pl σ r h;obtain rfl:=aE h;exact bj.refl _
 | region id ops J =>
   intro pl σ r h;obtain⟨bA,p,d⟩:=bind_some h;obtain rfl:=aE d;cases J with
   | true =>
     have j:(xo cx nb bf inl ops σ).run=some bA:=p;unfold xo at j;cases E:ops.any λo=>o.guard.isSome with
     | true =>
       rw[E] at j;obtain⟨K,L⟩:=aw (show(bif kC ops.toList then sS cx nb bf inl ops (number 0 ops.toList) [] σ (λ_=>false) else .fail).run=some bA from j);exact Wc g _ _ _ _ _ _ L
     | false =>
       rw[E] at j;exact Wg g _ _ _ _ _ j
   | false=>exact EE g _ _ _ _ p
 | seq a b q s =>
   intro pl σ r h;obtain⟨z,p,d⟩:=bind_some h;have F:=q _ _ _ p;cases G:Nat.beq z.1 0 with
   | true=>rw[G] at d;exact F.trans (s _ _ _ d)
   | false=>rw[G] at d;obtain rfl:=aE d;exact F
 | block i a t =>
   intro pl σ r h;obtain⟨z,p,d⟩:=bind_some h;obtain rfl:=aE d;exact t _ _ z p
 | scope a t=>intro pl σ r h;exact t _ _ _ h
 | cond c a b q s =>
   intro pl σ r h;unfold iC at h;split at h
   .rename_i I O R;change Bool at I;have:=fP h;cases I with
    | false=>exact s _ _ _ this
    | true=>exact q _ _ _ this
   .split at h
    .cases h
    rename_i σ m;refine(Lu m).trans ?_;split at h
    .cases h
    .rename_i k A;have n:=yn A;dsimp only at h;split at h
     .rw[Tree.FV] at h;obtain⟨x,p,d⟩:=zM.1 h;obtain rfl:=aE d;exact Aj n
     .rw[Tree.FV] at h;obtain⟨x,p,d⟩:=zM.1 h;exact HZ (Q:=λr:Nat×St=>bj σ r.2) (λe y C=>by obtain rfl:=aE C;exact Aj n) d
   .cases h
 | loop a t =>
   intro pl σ r h;unfold iC at h;split at h
   .split at h
    .exact TL (λσ r D=>t _ _ _ D) _ _ _ _ h
    split at h
    .cases h
    rename_i σ m;refine(Lu m).trans ?_;split at h
    .cases h
    .rename_i k A;have n:=yn A;dsimp only at h;split at h
     .cases h
     .split at h
      .obtain⟨x,p,d⟩:=bX h;obtain rfl:=aE d;exact Aj n
      .obtain⟨x,p,d⟩:=bX h;exact HZ (Q:=λr:Nat×St=>bj σ r.2) (λe y C=>by obtain rfl:=aE C;exact Aj n) d
   .exact Wh (λσ r D=>t _ _ _ D) _ _ _ h
   .cases h
 | _=>intro pl σ r h;cases h
end
end Go.Ge
namespace Go.Ge
variable [Lp]
open RowKit
section
variable {P:Program} {B:qA} {N:Nat} {cx:Ctx} {nb:Nat} {bf:List Nat} {inl:Nat->List aK->St->Tree (aK×St)}
theorem EK(k:Carry)(c:St):(k.lock c).mem=tk (λb d=>bif uj k.M b then d.lk else true) c.mem:=by
 funext b;simp only[Carry.lock,tk];cases c.mem b with
 | none=>rfl
 | some d=>simp only;cases uj k.M b<;>rfl
theorem aev(k:Carry)(c:St):k.lock c={ c with mem:=tk (λb d=>bif uj k.M b then d.lk else true) c.mem }:=by
 have:=EK k c;unfold Carry.lock at this⊢;dsimp only at this⊢;rw[this]
theorem Lv{T c:Type}{b:Bool}{t:Tree T}{k:T->Tree c}{y:c}(h:(t.XV b k).run=some y):∃x,t.run=some x/\(k x).run=some y:=by
 rw[Tree.FV] at h;exact zM.1 h
theorem Zx{T b:Type}{t:Tree T}{k:T->Tree b}{y:b}(h:(t.join k).run=some y):∃x,t.run=some x/\(k x).run=some y:=by
 rw[Tree.D3] at h;exact zM.1 h
theorem Lw{b:Type}{o:Option b}{y:b}(h:(Tree.abB o).run=some y):o=some y:=by
 cases o with
 | none=>cases h
 | some x=>exact h
theorem acp{b e i:Nat}(h:Iy [b] e=some i):e=b:=by
 simp only[Iy] at h;cases c:Nat.beq b e with
 | true=>exact(eT c).symm
 | false=>rw[c] at h;cases h
theorem cQ.X9{c:Gh}{b:St}{a:Act}{w:World}(h:cQ B N c b a w){i:Nat}{v:aK}(d:b5 c b.mem w v .val [a.tmps.getD i Go.undef]):cQ B N c (b.put i v) a w where
 slots:=λt=>by
  show b5 c b.mem w (bif Nat.beq t i then v else b.slots t) .val _
  cases e:Nat.beq t i with
  | true=>obtain rfl:=eT e;exact d
  | false=>exact h.slots t
 size:=h.size
 defers:=h.defers
 ok:=h.ok
theorem Q7{a:Act}{w:World}:∀{l:List (Nat×Sh)} {σ aV:St} {γ:Gh},settle l σ=some aV->cQ B N γ σ a w->∃bG,cQ B N bG aV a w/\Ext B γ σ.mem w bG aV.mem w/\bj σ aV:=by
 intro l;induction l with
 | nil=>intro σ aV γ h c;obtain rfl:=aE h;exact⟨γ,c,Ext.refl _ _ _ _,bj.refl _⟩
 | cons p r e =>
   obtain⟨i,s⟩:=p;intro σ aV γ h c;cases s with
   | d t =>
     simp only[settle] at h;split at h
     .rename_i x bA j;obtain⟨f,n,o,q⟩:=mr c (c.slots i) j;have s3:cQ B N f (bA.put i<|.data t x) a w:=n.X9 q;obtain⟨g,u,y,z⟩:=e h s3;exact⟨g,u,o.trans y,(oV j).trans z⟩
     .cases h
   | k v=>exact e h c
   | m a b=>exact e h c
theorem EL{k:Carry}{j:Bool}{wr:List Nat}{x:k.ty.den}{c e:St}{f l:Gh}{a p:Act}{w m:World}(q:Bs k c)(r:cQ B N f c p m)(s:cQ B N l e a w)(u:Ext B f c.mem m l e.mem w)
  (v:∀t,cK wr t=false->a.tmps[t]?=p.tmps[t]?) (d:∀b h,c.mem b=some h->uj k.M b=false->e.mem b=some { h with lk:=true }) (i:k.KB j c e=some x) :
  ∃bG,cQ B N bG (k.pn j false wr c x) a w/\Ext B f c.mem m bG (k.pn j false wr c x).mem w:=by
 unfold Carry.KB at i;cases j with
 | false=>exact⟨l,rT q r s u v (λb h n g=>⟨true,d b h n g⟩) i⟩
 | true =>
   simp only[eG] at i;split at i
   .rename_i bA y;obtain⟨o,z,A,C⟩:=Q7 y s;exact⟨o,rT q r z (u.trans A) v (λb h n g=>⟨true,C b _ (d b h n g) rfl⟩) i⟩
   .cases i
noncomputable def roundOf(d:Ctx)(e:Nat)(f:List Nat)(inl:Nat->List aK->St->Tree (aK×St))(k:Carry)(g:Bool)(b:St)(c:Code)(h:List (Option D9))(x:k.ty.den):Option (k.ty.den⊕(Nat×k.ty.den)) :=
 ((iC d e f inl c h<|k.pn false true (writes c) b x).bind λr=>bif Nat.beq r.1 0 then(match k.out false b r.2 with
   | some y=>.ret (.inl y)
   | none=>.fail)
  else match Iy (sU c) r.1,k.KB g b r.2 with
   | some i,some y=>.ret (.inr (i,y))
   | _,_=>.fail).run
theorem Pu{c:Code}{k:Carry}{fz:Bool}{d:St}{E:Gh}{a:Act}{w:World}{Q:Exit->Act->World->Prop}{R:Type}(F:Bs k d)(h:cQ B N E d a w){G:k.ty.den}(I:k.out false d d=some G)
  (f:k.ty.den->Option (k.ty.den⊕R)) (u:R->Nat->k.ty.den->Prop) {z:R} (hL:Loop f G=some z)
  (hf:∀x r,f x=some r->∃e y,(match r with|.inl J=>e=0/\J=y|.inr z=>e≠0/\u z e y) /\
   ∀l v w1 (Q':Exit->Act->World->Prop),cQ B N l (k.pn false true (writes c) d x) v w1->(∀ve bG g w',(bif Nat.beq e 0 then k.out false d ve else k.KB fz d ve)=some y->bj (k.pn false true (writes c) d x) ve->cQ B N bG ve g w'->Ext B l (k.pn false true (writes c) d x).mem w1 bG ve.mem w'->EJ (writes c) v g->Q' (Lt e) g w') ->
    c.wp P Q' v w1)
  (p:∀e y,e≠0->u z e y->∀bG g w',cQ B N bG (k.pn fz false (writes c) d y) g w'->Ext B E d.mem w bG (k.pn fz false (writes c) d y).mem w'->EJ (writes c) a g->Q (Lt e) g w') :
  (Code.loop c).wp P Q a w:=by
 obtain⟨n,hn⟩:=pz hL;refine Gm (λm g w'=>∃bG x,cQ B N bG (k.pn false true (writes c) d x) g w'/\Ext B E d.mem w bG (k.pn false true (writes c) d x).mem w'/\EJ (writes c) a g/\rounds f m x=some z) (n:=n) ?_ ?_
 .obtain⟨s,x⟩:=rT (lock:=true) (wr:=writes c) F h h (Ext.refl _ _ _ _) (λ_ _=>rfl) (λb q A _=>⟨q.lk,A⟩) I;exact⟨E,G,s,x,EJ.refl _ _,hn⟩
 .intro m v w1 hI;obtain⟨l,x,s1,e1,f1,K⟩:=hI;cases m with
  | zero=>cases K
  | succ m =>
    simp only[rounds] at K;obtain⟨r,L,C⟩:=zM.1 K;obtain⟨e,y,Z,O⟩:=hf x r L;refine O l v w1 _ s1 λve bG g w' S T s2 e2 f2=>?_;have hx:=e1.trans e2;have o:=f1.trans f2;have j:∀b q,d.mem b=some q->uj k.M b=false->ve.mem b=some { q with lk:=true }:=λb q A t=>by
     have:=T b _ (TK A t) (by simp);simpa using this
    cases r with
    | inl J =>
      obtain⟨rfl,rfl⟩:=Z;obtain⟨U,W⟩:=rT (lock:=true) (wr:=writes c) F h s2 hx o (λb q A t=>⟨true,j b q A t⟩) S;exact⟨m,SI m,bG,J,U,W,o,C⟩
    | inr z' =>
      obtain⟨D,hO⟩:=Z;obtain rfl:=aE C;have X:Nat.beq e 0=false:=iF D;rw[X] at S;obtain⟨Y,U,W⟩:=EL (wr:=writes c) F h s2 hx o j S;have:=p e y D hO Y g w' U W o
      match e,D,this with
      | 0,D,_=>exact absurd rfl D
      | 1,_,this=>exact this
      | i+2,_,this=>exact this
theorem Zy{S:Type}{o:Option (S⊕(Nat×S))}{r:S⊕S}(h:cA o=some r):(∃y,r=.inl y/\o=some (.inl y))\/∃i y,r=.inr y/\o=some (.inr (i,y)):=by
 unfold cA at h;obtain⟨q,b,c⟩:=uc.1 h;cases q with
 | inl y=>exact .inl ⟨y,c.symm,b⟩
 | inr p=>exact .inr ⟨p.1,p.2,c.symm,b⟩
theorem rU(agf:P.follows .mixedOrders=true)(hc:eS P cx)(Zl:oT P B.G cx)(aem:vq P B.G inl)(J:∀f agc σ v aV,(inl f agc σ).run=some (v,aV)->bj σ aV) :
  ∀(c:Code) {pl:List (Option D9)} {σ:St} {γ:Gh} {a:Act} {w:World} {e:Nat} {aV:St} {Q:Exit->Act->World->Prop},(∀t∈writes c,t<N)->(iC cx nb bf inl c pl σ).run=some (e,aV)->cQ B N γ σ a w ->
   (∀bG d w',cQ B N bG aV d w'->Ext B γ σ.mem w bG aV.mem w'->EJ (writes c) a d->Q (Lt e) d w')->c.wp P Q a w:=by
 intro c;induction c with
 | skip =>
   intro pl σ γ a w e aV Q I g h u;obtain⟨rfl,rfl⟩:=dz (aE g);exact wp_skip (u γ a w h (Ext.refl _ _ _ _)<|EJ.refl _ _)
 | label l =>
   intro pl σ γ a w e aV Q I g h u;obtain⟨rfl,rfl⟩:=dz (aE g);exact wp_label (u γ a w h (Ext.refl _ _ _ _)<|EJ.refl _ _)
 | ret =>
   intro pl σ γ a w e aV Q I g h u;obtain⟨rfl,rfl⟩:=dz (aE g);exact wp_ret (u γ a w h (Ext.refl _ _ _ _)<|EJ.refl _ _)
 | exit i =>
   intro pl σ γ a w e aV Q I g h u;obtain⟨rfl,rfl⟩:=dz (aE g);exact wp_exit (u γ a w h (Ext.refl _ _ _ _)<|EJ.refl _ _)
 | region id ops dr =>
   intro pl σ γ a w e aV Q I g h u;obtain⟨bA,T,R⟩:=bind_some g;obtain⟨rfl,rfl⟩:=dz (aE R);have hd':∀o∈ops.toList,∀k,o.dst=some k->k<N:=λo ho k hk=>I k (Q6 ho hk);have hfr:∀{a d:Act},Fr (number 0 ops.toList) a d->EJ (writes<|.region id ops dr) a d:=λhf t ht=>hf t (TJ ht);cases dr with
   | true=>exact TF agf hc Zl aem hd' T h λbG d w' s x f=>u bG d w' s x (hfr f)
   | false=>exact QS hc Zl aem J hd' T h λbG d w' s x f=>u bG d w' s x (hfr f)
 | seq x y ihx ihy =>
   intro pl σ γ a w e aV Q I g h u;obtain⟨r1,T,R⟩:=bind_some g;obtain⟨e1,bA⟩:=r1;have hdx:∀t∈writes x,t<N:=λt ht=>I t (nB _ ht);have hdy:∀t∈writes y,t<N:=λt ht=>I t (mP _ ht);refine wp_seq (ihx hdx T h λbG d w' D K C=>?_);cases e1 with
   | zero=>exact ihy hdy R D λajl a'' w'' s2 x2 f2=>u ajl a'' w'' s2 (K.trans x2) (C.left.trans f2.right)
   | succ e1 =>
     obtain⟨rfl,rfl⟩:=dz (aE R);have:=u bG d w' D K C.left;cases e1 with
     | zero=>exact this
     | succ i=>exact this
 | block i x ih =>
   intro pl σ γ a w e aV Q I g h u;obtain⟨r1,T,R⟩:=bind_some g;obtain⟨e1,bA⟩:=r1;obtain⟨rfl,rfl⟩:=dz (aE R);refine wp_block (ih I T h λbG d w' D K C=>?_);have:=u bG d w' D K C
   match e1,this with
   | 0,this=>exact this
   | 1,this=>exact this
   | j+2,this =>
     show Exit.inBlock i Q (.exit j) d w'
     unfold Exit.inBlock;by_cases e:j=i
     .subst e;simp only[mh];simpa [Lt] using this
     .simp only[bb e];have hb:Nat.beq (j+2) (i+2)=false:=iF (by omega);rw[hb] at this;exact this
 | scope x ih =>
   intro pl σ γ a w e aV Q I g h u;refine wp_scope_straight (ih I g h λbG d w' D K C=>?_);have:=u bG d w' D K C
   match e,this with
   | 0,this=>exact this
   | 1,this=>exact this
   | j+2,this=>exact this
 | cond o x y ihx ihy =>
   intro pl σ γ a w e aV Q I g h u;have hdx:∀t∈writes x,t<N:=λt ht=>I t (nB _ ht);have hdy:∀t∈writes y,t<N:=λt ht=>I t (mP _ ht);unfold iC at g;split at g
   .rename_i c0 F hcv;change Bool at c0;have E:=h.cp o;rw[hcv] at E;have E:=yi E;have hn:=fP g;cases c0 with
    | false=>exact wp_cond_false E (ihy hdy hn h λbG d w' D K C=>u bG d w' D K C.right)
    | true=>exact wp_cond_true E (ihx hdx hn h λbG d w' D K C=>u bG d w' D K C.left)
   .rename_i c0 p F hcv;change Bool at c0;have E:=h.cp o;rw[hcv] at E;have E:=yi E;split at g
    .cases g
    rename_i σ agh;obtain⟨γ,h,U⟩:=H2 agh h;replace u:=λbG d w' s x f=>u bG d w' s (U.trans x) f;clear U;split at g
    .cases g
    rename_i k hk;have hok:=yn hk;dsimp only at g;have go:∀{r:Nat×St},(Tree.node c0 (iC cx nb bf inl x F<|k.lock σ)<|iC cx nb bf inl y (F.drop<|marks x)<|k.lock σ).run=some r->∀{v:k.ty.den},k.KB p.fz σ r.2=some v ->
      (∀bG d w',cQ B N bG (k.pn p.fz false (writes x++writes y) σ v) d w'->Ext B γ σ.mem w bG (k.pn p.fz false (writes x++writes y) σ v).mem w'->EJ (writes x++writes y) a d->Q (Lt r.1) d w') ->
      (Code.cond o x y).wp P Q a w:=by
     intro r W v ho hQ;have hlk:cQ B N γ (k.lock σ) a w:=by rw[aev];exact h.tk
     have hle:Ext B γ σ.mem w γ (k.lock σ).mem w:=by rw[EK];exact Ext.tk
     have fin:bj (k.lock σ) r.2->∀bG d w',cQ B N bG r.2 d w'->Ext B γ (k.lock σ).mem w bG r.2.mem w'->EJ (writes x++writes y) a d->Q (Lt r.1) d w':=by
      intro hkp bG d w' D K C;obtain⟨γ2,s2,x2⟩:=EL (wr:=writes x++writes y) hok h D (hle.trans K) C (λb bx hb QF=>hkp b _ (by rw[EK,Pq hb,QF];rfl) rfl) ho;exact hQ γ2 d w' s2 x2 C
     have hn:=fP W;cases c0 with
     | false=>exact wp_cond_false E (ihy hdy hn hlk λbG d w' D K C=>fin (uz J _ _ _ _ hn) bG d w' D K C.right)
     | true=>exact wp_cond_true E (ihx hdx hn hlk λbG d w' D K C=>fin (uz J _ _ _ _ hn) bG d w' D K C.left)
    split at g
    .obtain⟨v,T,R⟩:=Lv g;obtain⟨rfl,rfl⟩:=dz (aE R);obtain⟨r,h3,h4⟩:=bind_some T;obtain⟨h5,h6⟩:=aw h4;refine go h3 (Lw h6) λbG d w' s x f=>?_;rw[eT h5];exact u bG d w' s x f
    .rename_i es hes;obtain⟨v,T,R⟩:=Lv g;obtain⟨r,h3,h4⟩:=bind_some T;split at h4
     .rename_i i v' L ho;obtain rfl:=aE h4;rw[Ps L] at R;obtain⟨rfl,rfl⟩:=dz (aE R);exact go h3 ho λbG d w' s x f=>u bG d w' s x f
     .cases h4
   .cases g
 | loop c ih =>
   intro pl σ γ a w e aV Q I g h u;unfold iC at g;split at g
   case h_2 =>
    rename_i F;generalize 100000=n at g;refine Gm (λm d w'=>∃bG bA,cQ B N bG bA d w'/\Ext B γ σ.mem w bG bA.mem w'/\EJ (writes c) a d/\(again (λσ=>iC cx nb bf inl c F σ) m bA).run=some (e,aV)) (n:=n) ⟨γ,σ,h,Ext.refl _ _ _ _,EJ.refl _ _,g⟩ ?_;intro m a1 w1 hI;obtain⟨S,bA,D,e1,C,O⟩:=hI;cases m with
    | zero=>cases O
    | succ m =>
      obtain⟨r,X,A⟩:=bind_some O;obtain⟨e',b6⟩:=r;refine ih I X D λbG d w' s2 e2 f2=>?_;cases Y:Nat.beq e' 0 with
      | true =>
        dsimp only at A;rw[Y] at A;obtain rfl:=eT Y;exact⟨m,SI m,bG,b6,s2,e1.trans e2,C.trans f2,A⟩
      | false =>
        dsimp only at A;rw[Y] at A;obtain⟨rfl,rfl⟩:=dz (aE A);have:=u bG d w' s2 (e1.trans e2) (C.trans f2)
        match e',Y,this with
        | 0,Y,_=>cases Y
        | 1,_,this=>exact this
        | i+2,_,this=>exact this
   case h_3=>cases g
   rename_i p F;split at g
   .rename_i ct hct;generalize 100=n at g;generalize 0=j at g;refine Gm (λm d w'=>∃bG bA j',cQ B N bG bA d w'/\Ext B γ σ.mem w bG bA.mem w'/\EJ (writes c) a d/\(FZ (λσ=>iC cx nb bf inl c F σ) ct m j' bA).run=some (e,aV)) (n:=n) ⟨γ,σ,j,h,Ext.refl _ _ _ _,EJ.refl _ _,g⟩ ?_;intro m a1 w1 hI;obtain⟨S,bA,j1,D,e1,C,O⟩:=hI;cases m with
    | zero=>cases O
    | succ m =>
      unfold FZ at O;split at O
      case h_2=>cases O
      rename_i x U;obtain⟨hj,hr2⟩:=ck O;obtain⟨r,X,A⟩:=bind_some hr2;obtain⟨e',b6⟩:=r;change Int at x;have hxe:x=(j1:Int):=kx (show decide (x=(j1:Int))=true from hj);have s1':cQ B N S (bA.put ct<|.data (.int .i64) (j1:Int)) a1 w1:=D.X9 (by
       have:=D.slots ct;rw[U] at this;rw[<-hxe];exact this)
      refine ih I X s1' λbG d w' s2 e2 f2=>?_;have e2:Ext B S bA.mem w1 bG b6.mem w':=e2;cases Y:Nat.beq e' 0 with
      | true =>
        dsimp only at A;rw[Y] at A;obtain rfl:=eT Y;exact⟨m,SI m,bG,b6,j1+1,s2,e1.trans e2,C.trans f2,A⟩
      | false =>
        dsimp only at A;rw[Y] at A;obtain⟨rfl,rfl⟩:=dz (aE A);have:=u bG d w' s2 (e1.trans e2) (C.trans f2)
        match e',Y,this with
        | 0,Y,_=>cases Y
        | 1,_,this=>exact this
        | i+2,_,this=>exact this
   split at g
   .cases g
   rename_i σ agh;obtain⟨γ,h,U⟩:=H2 agh h;replace u:=λbG d w' s x f=>u bG d w' s (U.trans x) f;clear U;split at g
   .cases g
   rename_i k hk;have hok:=yn hk;dsimp only at g;split at g
   .cases g
   rename_i x0 hx0;have hb:∀x r,roundOf cx nb bf inl k p.fz σ c F x=some r->∃e ve y,(iC cx nb bf inl c F<|k.pn false true (writes c) σ x).run=some (e,ve)/\(bif Nat.beq e 0 then k.out false σ ve else k.KB p.fz σ ve)=some y/\((e=0/\r=.inl y)\/(e≠0/\∃i,Iy (sU c) e=some i/\r=.inr (i,y))):=by
    intro x r U;unfold roundOf at U;obtain⟨q,X,A⟩:=bind_some U;obtain⟨e,ve⟩:=q;dsimp only at A;cases he:Nat.beq e 0 with
    | true =>
      rw[he] at A;simp only[eG] at A;split at A
      .rename_i y hy;exact⟨e,ve,y,X,by rw[he];exact hy,.inl ⟨eT he,(aE A).symm⟩⟩
      .cases A
    | false =>
      rw[he] at A;simp only[iD] at A;split at A
      .rename_i i y hi hy;exact⟨e,ve,y,X,by rw[he];exact hy,.inr ⟨λe0=>(by subst e0;cases he),i,hi,(aE A).symm⟩⟩
      .cases A
   have step:∀{x:k.ty.den} {e:Nat} {ve:St} {y:k.ty.den},(iC cx nb bf inl c F<|k.pn false true (writes c) σ x).run=some (e,ve)->(bif Nat.beq e 0 then k.out false σ ve else k.KB p.fz σ ve)=some y->∀S a1 w1 (Q':Exit->Act->World->Prop),cQ B N S (k.pn false true (writes c) σ x) a1 w1 ->
     (∀ve bG d w',(bif Nat.beq e 0 then k.out false σ ve else k.KB p.fz σ ve)=some y->bj (k.pn false true (writes c) σ x) ve->cQ B N bG ve d w'->Ext B S (k.pn false true (writes c) σ x).mem w1 bG ve.mem w'->EJ (writes c) a1 d->Q' (Lt e) d w')->c.wp P Q' a1 w1:=by
    intro x e ve y W ho S a1 w1 Q' s hQ;exact ih I W s λbG d w' D K C=>hQ ve bG d w' ho (uz J _ _ _ _ W) D K C
   split at g
   .rename_i e0 hes;obtain⟨v,T,R⟩:=bX g;obtain⟨rfl,rfl⟩:=dz (aE R);refine Pu (fz:=p.fz) hok h hx0 _ (λz e' y=>e'=e0/\z=y) T (λx r U=>?_) (λe' y hne hO bG d w' s x f=>?_)
    .rcases Zy U with ⟨y,rfl,hy⟩|⟨i,y,rfl,hy⟩
     .obtain⟨e,ve,y',X,A,Z⟩:=hb x _ hy;rcases Z with ⟨rfl,Z⟩|⟨_,i,_,Z⟩
      .obtain rfl:=XT Z;exact⟨0,y,⟨rfl,rfl⟩,step X A⟩
      .cases Z
     .obtain⟨e,ve,y',X,A,Z⟩:=hb x _ hy;rcases Z with ⟨rfl,Z⟩|⟨hne,i',L,Z⟩
      .cases Z
      .obtain⟨rfl,rfl⟩:=dz (Sum.inr.inj Z);rw[hes] at L;exact⟨e,y,⟨hne,acp L,rfl⟩,step X A⟩
    .obtain⟨rfl,rfl⟩:=hO;exact u bG d w' s x f
   .obtain⟨v,T,R⟩:=bX g;refine Pu (fz:=p.fz) hok h hx0 _ (λz e' y=>Iy (sU c) e'=some z.1/\z.2=y) T (λx r U=>?_) (λe' y hne hO bG d w' s x f=>?_)
    .obtain⟨e,ve,y',X,A,Z⟩:=hb x _ U;rcases Z with ⟨rfl,rfl⟩|⟨hne,i,L,rfl⟩
     .exact⟨0,y',⟨rfl,rfl⟩,step X A⟩
     .exact⟨e,y',⟨hne,L,rfl⟩,step X A⟩
    .obtain⟨L,rfl⟩:=hO;rw[Ps L] at R;obtain⟨rfl,rfl⟩:=dz (aE R);exact u bG d w' s x f
 | _=>intro pl σ γ a w e aV Q I g h u;cases g
end
end Go.Ge
namespace Go.Ge
variable [Lp]
open RowKit
def Wi(fn:Func):Bool:=!(fn.name == "runtime.NumGoroutine")&&(match fn.body with|some c=>(writes c).all λt=>Nat.blt t fn.ntmps|none=>true)
def Pv(cx:Ctx):Prop:=∀f b,find cx.fns f=some b->Wi b=true
theorem rV{c:Type}{l:List (Nat×c)}{k:Nat}{x:c}(h:find l k=some x):(k,x)∈l:=by
 induction l with
 | nil=>cases h
 | cons p r d =>
   obtain⟨i,a⟩:=p;simp only[find] at h;cases b:Nat.beq i k with
   | true =>
     rw[b] at h;obtain rfl:=aE h;obtain rfl:=eT b;exact oB ..
   | false=>rw[b] at h;exact oA _ (d h)
theorem TM{cx:Ctx}(h:(cx.fns.all λp=>Wi p.2)=true):Pv cx:=λf c b=>by
 rw[va] at h;exact h _ (rV b)
section
variable {P:Program} {B:qA} {N:Nat} {γ:Gh} {σ:St} {a:Act} {w:World} {cx:Ctx}
def Gn(b:Array Value):ResultVar->Sem Value
 | .tmp t=>pure (b.getD t undef)
 | .cell a t=>do loadVar t (<-asAddr (b.getD a undef))
theorem zg(e:eS P cx)(h:cQ B N γ σ a w){r:ResultVar}{v:aK}(d:(F0 cx σ r).run=some v):∃b,(Gn a.tmps r).run P w=.ok b w/\b5 γ σ.mem w v .val [b]:=by
 cases r with
 | tmp t =>
   obtain rfl:=aE d;exact⟨_,rfl,h.slots t⟩
 | cell t ty =>
   obtain⟨τ,f,g⟩:=bind_some d;obtain rfl:=aE g;obtain⟨u,b,i,rfl,j,k,l⟩:=S4 (P:=P) e (x:=.tmp t) h f;refine⟨b,?_,?_⟩
   .have c:a.tmps.getD t undef=.pointer (some i):=j;simp only[Gn,c,asAddr,Sem.run_bind,Sem.run_pure,Result.andThen_ok,k]
   .simpa [St.aS,St.put] using l
theorem Lx(e:eS P cx)(h:cQ B N γ σ a w):∀{rs:List ResultVar} {v:aK},(Ec cx σ rs).run=some v->∃b:List Value,b.length=rs.length/\(rs.mapM<|Gn a.tmps).run P w=.ok b w/\b5 γ σ.mem w v .many b:=by
 intro rs;induction rs with
 | nil=>intro v d;obtain rfl:=aE d;exact⟨[],rfl,rfl,rfl⟩
 | cons r rs f =>
   intro v d;obtain⟨s,g,i⟩:=bind_some d;obtain⟨l,j,k⟩:=bind_some i;obtain rfl:=aE k;obtain⟨c,m,n⟩:=zg e h g;obtain⟨b,o,p,q⟩:=f j;refine⟨c::b,by simp[o],?_,c,b,rfl,n,q⟩;simp only[XP,Sem.run_bind,m,Result.andThen_ok,p,Sem.run_pure]
theorem Wj(c:Func)(b:Array Value):results c b=(do
  let vs <-c.results.toList.mapM (Gn b)
  pure (if h:vs.toArray.size=1 then vs.toArray[0] else .tuple vs.toArray)):=by
 have h:results c b=(do
   let vs <-c.results.mapM (Gn b)
   pure (if h:vs.size=1 then vs[0] else .tuple vs)):=by
  unfold results
  congr 1
 rw[h,Array.mapM_eq_mapM_toList];simp only[bind_map_left]
theorem wm(i:eS P cx)(h:cQ B N γ σ a w){fn:Func}{v:aK}(d:(results1 cx σ fn.results.toList).run=some v):∃b,(results fn a.tmps).run P w=.ok b w/\b5 γ σ.mem w v .val [b]:=by
 rw[Wj];generalize fn.results.toList=rs at d;have many:∀{l:aK},rs.length≠1->(Ec cx σ rs).run=some l->∃b,(do
   let vs <-rs.mapM (Gn a.tmps)
   pure (if h:vs.toArray.size=1 then vs.toArray[0] else .tuple vs.toArray):Sem Value).run P w=.ok b w/\b5 γ σ.mem w (.y7 l) .val [b]:=by
  intro l e j;obtain⟨c,k,m,n⟩:=Lx i h j;refine⟨.tuple c.toArray,?_,c.toArray,rfl,by simpa using n⟩;have:¬c.toArray.size=1:=by simp[k,e]
  simp only[Sem.run_bind,m,Result.andThen_ok,Sem.run_pure,dif_neg this]
 match rs,d with
 | [],d =>
   obtain⟨l,f,g⟩:=bind_some d;obtain rfl:=aE g;exact many (by simp) f
 | [r],d =>
   obtain⟨b,o,p⟩:=zg i h d;refine⟨b,?_,p⟩;simp only[XP,List.mapM_nil,Sem.run_bind,o,Result.andThen_ok,Sem.run_pure];rfl
 | r::s::rs,d =>
   obtain⟨l,f,g⟩:=bind_some d;obtain rfl:=aE g;exact many (by simp) f
theorem Gp{d:Nat->Option Box}(i:bu B γ d w){b:List aK}{c:Array Value}(g:kV γ d w b c.toList)(n:Nat) :
  cQ B (c.size+(n-c.size)) γ (nM d b) { tmps:=c++Array.replicate (n-c.size) undef,defers:=[] } w where
 slots:=λt=>by
  show b5 γ d w ((b[t]?).getD .undef) .val [_]
  cases h:b[t]? with
  | none=>exact⟨_,rfl⟩
  | some v =>
    have e:t<c.size:=by
     have:=(ix.1 h).1;have f:=g.1;simp at f;omega
    have j:c[t]?=some c[t]:=Array.getElem?_eq_getElem e;have f:(c++Array.replicate (n-c.size) undef).getD t undef=c[t]:=by
     rw[Vs,afq e,j];rfl
    dsimp only;rw[f];exact g.2 t v c[t] h (by simp[e])
 size:=by simp
 defers:=rfl
 ok:=i
noncomputable def Pw(c:Ctx)(n d:Nat)(b:Nat->sT):Nat->List aK->St->Tree (aK×St) :=
 λg e σ=>(y9 c n (CX σ.mem ((d+g+1)*1000) (b g).Qn) b g e σ.mem).bind λr=>.ret (r.1,{ σ with mem:=r.2 })
theorem Ly{n h f:Nat}{b:Nat->sT}{d:List aK}{g:Nat->Option Box}{r:aK×(Nat->Option Box)}(e:(y9 cx (n+1) h b f d g).run=some r) :
  ∃fn c,find cx.fns f=some fn/\fn.body=some c/\((KD cx h (b f) (Pw cx n h b) fn c d g).run=some r\/∃R,(X1 R d g<|KD cx h (b f) (Pw cx n h b) fn c d).run=some r):=by
 unfold y9 at e;split at e
 case h_2=>cases e
 rename_i fn i;split at e
 case h_2=>cases e
 rename_i c j;refine⟨fn,c,i,j,?_⟩;split at e
 .exact .inl e
 .exact .inr ⟨_,e⟩
theorem De{g:Nat}{p:sT}{inl:Nat->List aK->St->Tree (aK×St)}{fn:Func}{c:Code}{b:List aK}{f:Nat->Option Box}{r:aK×(Nat->Option Box)}(h:(KD cx g p inl fn c b f).run=some r) :
  ∃e aV,(iC cx g p.Qn inl c p.marks<|nM f b).run=some (e,aV)/\(e=0\/e=1)/\(results1 cx aV fn.results.toList).run=some r.1/\r.2=aV.mem:=by
 obtain⟨q,i,j⟩:=bind_some h;obtain⟨e,aV⟩:=q;obtain⟨d,k⟩:=aw j;obtain⟨v,l,m⟩:=bind_some k;obtain rfl:=aE m;refine⟨e,aV,i,?_,l,rfl⟩;simp only[x7] at d;rcases d with d|d
 .exact .inl (eT d)
 .exact .inr (eT d)
theorem aew:∀{l:List Ty} {i t:Nat} {s:Sh},(t,s)∈X0 l i->∃u,s=.d u:=by
 intro l;induction l with
 | nil=>intro i t s h;cases h
 | cons a r b =>
   intro i t s h;rcases fY.1 h with h|h
   .obtain⟨rfl,rfl⟩:=dz h;exact⟨a,rfl⟩
   .exact b h
theorem LA{R:Bool×List Ty}{d:List aK}{c:Nat->Option Box}{F:(Nat->Option Box)->Tree (aK×(Nat->Option Box))}{r:aK×(Nat->Option Box)}(e:(X1 R d c F).run=some r) :
  ∃(k:Carry) (x:k.ty.den) (v:aK) (dP:Nat->Option Box),Bs k (iQ c)/\(F (k.lock<|iQ c).mem).run=some (v,dP)/\k.out false (iQ c) (abK R.1 v dP)=some x/\SY R.1 v R.2.length=true /\
   r=(Qq R.1 R.2.length (k.pn false false (List.range R.2.length) (iQ c) x).slots,(k.pn false false (List.range R.2.length) (iQ c) x).mem):=by
 unfold X1 at e;split at e
 .cases e
 rename_i m i;obtain⟨x,j,l⟩:=Zx e;obtain⟨q,n,f⟩:=bind_some j;obtain⟨o,f⟩:=aw f;refine⟨⟨X0 R.2 0,m,λ_ g=>g⟩,x,q.1,q.2,⟨λt s h=>?_,acn i,λb x p=>(by cases p)⟩,n,Lw f,o,(aE l).symm⟩;obtain⟨u,rfl⟩:=aew h;trivial
theorem acq{γ:Gh}{mem:Nat->Option Box}{w:World}:∀{m:aK} {vs:List Value},b5 γ mem w m .many vs->KC m=vs.length/\∀(t:Nat) (u:aK),nth m t=some u->∃v,vs[t]?=some v/\b5 γ mem w u .val [v]:=by
 intro m;induction m with
 | mix a b _ d =>
   intro vs h;obtain⟨v,r,rfl,e,f⟩:=h;obtain⟨g,i⟩:=d f;refine⟨by simp only[KC,dW,g],λt u c=>?_⟩;cases t with
   | zero=>obtain rfl:=aE c;exact⟨v,rfl,e⟩
   | succ t=>exact i t u c
 | nl=>intro vs h;obtain rfl:vs=[]:=h;exact⟨rfl,λt u c=>(by cases t<;>cases c)⟩
 | _=>intro vs h;exact h.elim
theorem Zz{γ:Gh}{mem:Nat->Option Box}{w:World}{slots:Nat->aK}:∀(vs:List Value) (i:Nat),(∀(t:Nat) (v:Value),vs[t]?=some v->b5 γ mem w (slots<|i+t) .val [v])->b5 γ mem w (af0 slots i vs.length) .many vs:=by
 intro vs;induction vs with
 | nil=>intro i h;exact rfl
 | cons v r b =>
   intro i h;refine⟨v,r,rfl,h 0 v rfl,b (i+1) λt u c=>?_⟩;have:=h (t+1) u (by simpa using c)
   rwa [show i+(t+1)=i+1+t by omega] at this
theorem Wk{d:Nat->sT}:∀(n nb f:Nat) (g:List aK) (mem:Nat->Option Box) (r:aK×(Nat->Option Box)),(y9 cx n nb d f g mem).run=some r->∀b i,mem b=some i->i.lk=true->r.2 b=some i:=by
 intro n;induction n with
 | zero=>intro nb f g mem r h;cases h
 | succ n o =>
   intro nb f g mem r h b i l m;obtain⟨p,c,A,C,j⟩:=Ly h;have body:∀{mem:Nat->Option Box} {r:aK×(Nat->Option Box)},(KD cx nb (d f) (Pw cx n nb d) p c g mem).run=some r->∀b i,mem b=some i->i.lk=true->r.2 b=some i:=by
    intro mem r h b i l m;obtain⟨e,aV,j,D,E,s⟩:=De h;have:=uz (λf g σ v aV t=>by
     obtain⟨q,u,y⟩:=bind_some (show((y9 cx n (CX σ.mem ((nb+f+1)*1000) (d f).Qn) d f g σ.mem).bind λr=>.ret (r.1,{ σ with mem:=r.2 })).run=some (v,aV) from t);obtain⟨rfl,rfl⟩:=dz (aE y);exact λb i l m=>o _ _ _ _ q u b i l m) c _ _ _ j
    rw[s];exact this b i l m
   rcases j with j|⟨R,j⟩
   .exact body j b i l m
   .obtain⟨k,x,v,dP,z,_,_,_,rfl⟩:=LA j;exact Aj (fz:=false) (lock:=false) (wr:=List.range R.2.length) (x:=x) z b i l m
theorem LB{c:Nat->sT}(n e:Nat):∀f d σ v aV,(Pw cx n e c f d σ).run=some (v,aV)->bj σ aV:=by
 intro f d σ v aV g;obtain⟨q,h,i⟩:=bind_some (show((y9 cx n (CX σ.mem ((e+f+1)*1000) (c f).Qn) c f d σ.mem).bind λr=>.ret (r.1,{ σ with mem:=r.2 })).run=some (v,aV) from g);obtain⟨rfl,rfl⟩:=dz (aE i);exact λb j k l=>Wk _ _ _ _ _ q h b j k l
theorem H3(U:P.follows .mixedOrders=true)(hc:eS P cx){G:fm}(W:oT P G cx)(X:Pv cx){i:Nat->sT} :
  ∀(n nb f:Nat) (B:qA) (γ:Gh) (mem dP:Nat->Option Box) (w:World) (d:List aK) (C:Array Value) (v:aK),B.G=G->bu B γ mem w->kV γ mem w d C.toList->(y9 cx n nb i f d mem).run=some (v,dP) ->
  (∃y Y,P.funcs[f]?=some y/\(y.name == "runtime.NumGoroutine")=false/\y.body=some Y) /\
  Calls P f C w λe w'=>∃g bG,e=.returned g/\bu B bG dP w'/\Ext B γ mem w bG dP w'/\b5 bG dP w' v .val [g]:=by
 intro n;induction n with
 | zero=>intro nb f B γ mem dP w d C v _ _ _ h;cases h
 | succ n ih =>
   intro nb f B γ mem dP w d C v hG E S h;subst hG;obtain⟨y,c,h1,h2,F⟩:=Ly h;have I:=X f y h1;simp only[Wi,h2,dF,kS,va] at I;have hP:=hc.fns f y h1;refine⟨⟨y,c,hP,I.1,h2⟩,?_⟩;have Z:vq P B.G (Pw cx n nb i):=by
    intro B' γ σ ajn w f d C v hG E S hi;obtain⟨q,g1,g2⟩:=bind_some (show((y9 cx n (CX σ.mem ((nb+f+1)*1000) (i f).Qn) i f d σ.mem).bind λr=>.ret (r.1,{ σ with mem:=r.2 })).run=some (v,ajn) from hi);obtain⟨rfl,rfl⟩:=dz (aE g2);obtain⟨k1,k2⟩:=ih _ f B' γ σ.mem q.2 w d C q.1 hG E S g1;exact⟨k1,rfl,k2⟩
   have body:∀{γ:Gh} {mem dP:Nat->Option Box} {v:aK},bu B γ mem w->kV γ mem w d C.toList->(KD cx nb (i f) (Pw cx n nb i) y c d mem).run=some (v,dP) ->
     Calls P f C w λe w'=>∃g bG,e=.returned g/\bu B bG dP w'/\Ext B γ mem w bG dP w'/\b5 bG dP w' v .val [g]:=by
    intro γ mem dP v E S h;obtain⟨e,aV,F,h4,h5,h6⟩:=De h;dsimp only at h5 h6;subst h6;refine calls_of_wp hP h2 ?_;refine rU (B:=B) U hc W Z (LB _ _) c (λt z=>?_) F (Gp E S y.ntmps) λbG a' w' s x f=>?_
    .have:=I.2 t z;have:=CO (by simpa [Nat.blt] using this);omega
    .obtain⟨g,r1,r2⟩:=wm (fn:=y) hc s h5;have:a'.defers=[]/\∃T,(results y a'.tmps).run P w'=.ok T w'/\∃g bG,Ending.returned T=.returned g/\bu B bG aV.mem w'/\Ext B γ mem w bG aV.mem w'/\b5 bG aV.mem w' v .val [g] :=
      ⟨s.defers,g,r1,g,bG,rfl,s.ok,x,r2⟩
     rcases h4 with rfl|rfl
     .exact this
     .exact this
   rcases F with F|⟨R,F⟩
   .exact body E S F
   .obtain⟨k,x,T,j,hk,h4,h5,J,h6⟩:=LA F;obtain⟨rfl,rfl⟩:=dz h6;have K:(k.lock<|iQ mem).mem=tk (λb A=>bif uj k.M b then A.lk else true) mem:=EK k (iQ mem);have hm1:bu B γ (k.lock<|iQ mem).mem w:=by rw[K];exact E.tk
    have hx1:Ext B γ mem w γ (k.lock<|iQ mem).mem w:=by rw[K];exact Ext.tk
    have O:∀b A,(k.lock<|iQ mem).mem b=some A->A.lk=true->j b=some A:=by
     intro b A hb hl;obtain⟨e,aV,g3,_,_,g6⟩:=De h4;have:=uz (λf d σ v aV hi=>LB n nb f d σ v aV hi) c _ _ _ g3;rw[show j=aV.mem from g6];exact this b A hb hl
    refine(body hm1 (S.ext hx1) h4).mono λe w' hw=>?_;obtain⟨g,l,rfl,m1,x1,r1⟩:=hw;have fin:∀(n:Nat) (ts:Array Value),ts.size=n->n=R.2.length->(∀t,b5 l j w' (spread R.1 T t) .val [ts.getD t undef]) ->
      (∀{o:Nat->Option Box} {sl:Nat->aK},(∀t,b5 l o w' (sl t) .val [ts.getD t undef])->b5 l o w' (Qq R.1 R.2.length sl) .val [g]) ->
      ∃D Q,Ending.returned g=.returned D/\bu B Q (k.pn false false (List.range R.2.length) (iQ mem) x).mem w'/\Ext B γ mem w Q (k.pn false false (List.range R.2.length) (iQ mem) x).mem w' /\
       b5 Q (k.pn false false (List.range R.2.length) (iQ mem) x).mem w' (Qq R.1 R.2.length (k.pn false false (List.range R.2.length) (iQ mem) x).slots) .val [D]:=by
     intro n ts hts hn hr hg;have s0:cQ B n γ (iQ mem) { tmps:=Array.replicate n undef,defers:=[] } w:=⟨λt=>⟨_,rfl⟩,by simp,rfl,E⟩;have s1:cQ B n l (abK R.1 T j) { tmps:=ts,defers:=[] } w':=⟨hr,hts,rfl,m1⟩;obtain⟨s2,x2⟩:=rT (lock:=false) (wr:=List.range R.2.length) hk s0 s1 (hx1.trans x1) (λt z=>by
      have z:¬t<n:=λhlt=>by
       have ajo:t∈List.range R.2.length:=B5.2 (by omega);have:cK (List.range R.2.length) t=true:=Ex.2 ajo;rw[this] at z;cases z
      rw[SB<|by show ts.size<=t;omega,SB (by simp;omega)]) (λb A hb QF=>⟨true,O b _ (by rw[K];simp only[tk,show mem b=some A from hb,QF,iD]) rfl⟩) h5
     exact⟨g,l,rfl,s2.ok,x2,hg s2.slots⟩
    obtain⟨y7,L⟩:=R;cases y7 with
    | false =>
      have hL:L.length=1:=eT J;refine fin 1 #[g] rfl hL.symm (λt=>?_) (λh=>h 0);cases t with
      | zero=>exact r1
      | succ t=>exact⟨_,rfl⟩
    | true =>
      cases T with
      | y7 m =>
        obtain⟨p,e1,r2⟩:=r1;obtain⟨q1,q2⟩:=acq r2;have hL:KC m=L.length:=eT J;obtain rfl:g=.tuple p:=ub e1;have VE:p.size=L.length:=by rw[<-hL,q1];simp
        refine fin L.length p VE rfl (λt=>?_) (λ{o sl} h=>⟨p,rfl,?_⟩)
        .show b5 l j w' (match nth m t with|some u=>u|none=>.undef) .val _
         cases z:nth m t with
         | none=>exact⟨_,rfl⟩
         | some u =>
           obtain⟨v,g1,g2⟩:=q2 t u z;dsimp only;rw[Vs,<-aa4,g1];exact g2
        .have:=Zz (γ:=l) (mem:=o) (w:=w') (slots:=sl) p.toList 0 λt v z=>by
          have:=h t;rw[Vs,<-aa4,z] at this;rw[pv];exact this
         rwa [show p.toList.length=L.length by rw[<-VE];simp] at this
      | _=>cases J
end
end Go.Ge
namespace Go.Ge
variable [Lp]
open RowKit
section
variable {P:Program} {B:qA} {N:Nat} {γ:Gh} {σ:St} {a:Act} {w:World} {cx:Ctx}
theorem Q8{d:Nat->Option Box}{I:Nat->Nat->Prop}{e:Nat->Option (Nat×Nat)}:∀{A:Ty} {x:A.den} {b:List Value},iq w I A x b->kV ⟨I,e⟩ d w (F1 A x) b:=by
 intro A;induction A with
 | pair t r k f =>
   intro x b h;obtain⟨l,g,rfl,m,n⟩:=h;have:=f n;refine⟨by simp[F1,this.1],λi v y c j=>?_⟩;cases i with
   | zero =>
     obtain rfl:=aE c;obtain rfl:=aE j;exact⟨l,m,rfl⟩
   | succ i=>exact this.2 i v y (by simpa [F1] using c) (by simpa using j)
 | unit=>intro x b h;rw[show b=[] from h];exact⟨rfl,λi v y c=>by cases c⟩
 | _=>intro x b h;exact h.elim
theorem TN(i:bu B γ σ.mem w){f:Nat->Nat->Prop}(j:∀b o,γ.I b o->f b o)(g:∀b o,B.has b->b<w.heap.size->f b o):∀{R:Ty} {y:R.den} {u:aK} {vs:List Value},
  b5 γ σ.mem w u .many vs->ig σ R (Ed u)=some y->b5 ⟨f,λ_=>none⟩ (λ_=>none) w (zS R y) .many vs:=by
 intro R;induction R with
 | pair t r k h =>
   intro y u vs d c;cases u with
   | mix p q =>
     obtain⟨v,e,rfl,l,m⟩:=d;simp only[Ed,ig] at c;split at c
     .rename_i x z n s;obtain rfl:=aE c;obtain⟨A,C,D⟩:=KZ i j g l n;exact⟨v,e,rfl,⟨A,C,by rw[D]⟩,h m s⟩
     .cases c
   | _=>cases c
 | unit =>
   intro y u vs d c;cases u with
   | mix p q=>cases c
   | nl=>exact d
   | _=>exact(show False from d).elim
 | _=>intro y u vs d c;cases u<;>cases c
theorem Px(l:bu B γ σ.mem w){i:Nat->Nat->Prop}(m:∀b o,γ.I b o->i b o)(f:∀b o,B.has b->b<w.heap.size->i b o){R:Ty}{y:R.den}{v:aK}{d:Value}
  (n:b5 γ σ.mem w v .val [d]) (c:ig σ R (Ee R v)=some y):lV w i R y d:=by
 have many:∀{R:Ty} {y:R.den},(ue R y=.y7 (zS R y))->(ig σ R (match v with|.y7 v=>Ed v|v=>[v])=some y)->(∀t,R≠.pair t .unit)->lV w i R y d:=by
  intro R y g c j;unfold lV;rw[g];have one:∀{p:aK},ig σ R [p]=some y->False:=by
   intro p h;cases R with
   | pair t r =>
     simp only[ig] at h;split at h
     .rename_i q;cases r with
      | unit=>exact j t rfl
      | _=>cases q
     .cases h
   | _=>cases h
  cases v with
  | y7 u =>
    obtain⟨k,s,A⟩:=n;exact⟨k,s,TN l m f A c⟩
  | _=>exact(one c).elim
 cases R with
 | pair t r =>
   cases r with
   | unit =>
     simp only[Ee,ig] at c;split at c
     .rename_i x z C G;obtain rfl:=aE c;obtain⟨D,E,F⟩:=KZ l m f n C;exact⟨D,E,by rw[F]⟩
     .cases c
   | _=>exact many rfl (by cases v<;>exact c) (λt e=>by cases e)
 | _=>exact many rfl (by cases v<;>exact c) (λt e=>by cases e)
theorem EM(C:P.follows .mixedOrders=true)(U:eS P cx){G:fm}(D:oT P G cx)(m:Pv cx){t:Nat->sT}{n f:Nat}{A R:Ty}{p:A.den->Option R.den}
  {E:Func} {q:Code} (F:find cx.fns f=some E) (i:E.body=some q) (h:∀x y,p x=some y->sem cx n t f A R x=some y):Holds P G f ⟨A,R,p⟩ where
 body:=by
  have J:=m f E F;simp only[Wi,i,dF,kS] at J;exact⟨E,q,U.fns f E F,J.1,i⟩
 calls:=by
  intro I w K x y X Y u z;have W:=h x y z;unfold sem at W;obtain⟨r,h1,s⟩:=bind_some W;obtain⟨v,dP⟩:=r;have Z:ig (iQ dP) R (Ee R v)=some y:=by
   dsimp only at s;split at s
   .rename_i y' O;obtain rfl:=aE s;exact O
   .cases s
  have hm:bu (lZ G w.heap.size) ⟨I,λ_=>none⟩ (λ_=>none) w :=
   { cP:=λb Q g=>by
      obtain⟨o,h1,s⟩:=Y b Q g;exact⟨λj=>by have:=pB.1 j;have:=(u9.1 h1).1;omega,o,h1,s⟩
     base:=cD _
     boxes:=λb bx j=>by cases j
     inj:=λb c L k k' j=>absurd rfl j
     fresh:=λb L k j=>absurd rfl j
     sV:=X
     sep:=λb bx L k off j=>by cases j }
  obtain⟨_,l⟩:=H3 C U D m n 0 f (lZ G w.heap.size) ⟨I,λ_=>none⟩ (λ_=>none) dP w (F1 A x) K v rfl hm (Q8 u) h1;refine l.mono λe w' hw=>?_;obtain⟨S,bG,rfl,m1,T,r1⟩:=hw;refine⟨S,λb o=>bG.I b o\/(w.heap.size<=b/\b<w'.heap.size),rfl,T.below.below,λb o d=>.inl (T.I b o d),λb o d=>?_,λb o d hn=>?_,?_⟩
  .rcases d with d|d
   .exact m1.sV b o d
   .exact d.2
  .rcases d with d|d
   .exact pB.1 ((T.pC b o d).resolve_left hn)
   .exact d.1
  .exact Px (σ:=iQ dP) m1 (λb o d=>.inl d) (λb o h1 s=>.inr ⟨pB.1 h1,s⟩) r1 Z
def LC(N M:List (Nat×Nat))(c:List Nat)(ls:List (Option<|Nat×Nat)):Nat->Option (Nat×Nat):=gW M ls (gW N (c.map λb=>some (b,0)) λ_=>none)
theorem aex{I:Nat->Nat->Prop}{N M:List (Nat×Nat)}{d:List Nat}{b:List (Option<|Nat×Nat)}(c:(bo N M).Nodup)(e:M.length=b.length):pF ⟨I,LC N M d b⟩ M b:=by
 unfold bo at c;exact ym (Nl.1 c).2.1 e
theorem aey{I:Nat->Nat->Prop}{N M:List (Nat×Nat)}{c:List Nat}{ls:List (Option<|Nat×Nat)}(d:(bo N M).Nodup)(f:N.length=c.length):iG ⟨I,LC N M c ls⟩ N c:=by
 unfold bo at d;obtain⟨g,l,h⟩:=Nl.1 d;have e:=ym (loc:=λ_=>none) g (ls:=c.map λb=>some (b,0)) (by simp[f]);unfold iG;have i:N.map (λp=>(LC N M c ls p.1).map (·.1))=(N.map λp=>gW N (c.map λb=>some (b,0)) (λ_=>none) p.1).map (Option.map (·.1)):=by
  rw[Pb];refine Qj λp j=>?_;show(gW M ls _ p.1).map _=_
  rw[C6 λk=>h p.1 (vb.2 ⟨p,j,rfl⟩) p.1 k rfl];rfl
 exact i.trans (by rw[e,Pb];rfl)
theorem acr{N M:List (Nat×Nat)}{z:List Nat}{t:List (Option<|Nat×Nat)}(J:iG γ N z)(K:pF γ M t)(F:(cW z t).Nodup){b c d k O:Nat}(f:b∈bo N M)(m:c∈bo N M)
  (A:γ.loc b=some (d,k)) (C:γ.loc c=some (d,O)):b=c:=by
 unfold cW at F;obtain⟨Q,R,G⟩:=Nl.1 F;have JV:∀{b k},b∈N.map (·.1)->γ.loc b=some (d,k)->∃i v:Nat,N[i]?=some (b,v)/\z[i]?=some d:=by
  intro b k f e;obtain⟨p,D,rfl⟩:=vb.1 f;obtain⟨i,u,g⟩:=O1 D;refine⟨i,p.2,by rw[jE u,g],?_⟩;have:=congrArg (λl=>l[i]?) J;simp only[Kj,jE u,g,FT,e] at this;cases I:z[i]? with
  | none=>rw[I] at this;cases this
  | some x=>rw[I] at this;simp at this;rw[this]
 have uj:∀{b k},b∈M.map (·.1)->γ.loc b=some (d,k)->∃i v:Nat,M[i]?=some (b,v)/\t[i]?=some (some (d,k)):=by
  intro b k f e;obtain⟨p,D,rfl⟩:=vb.1 f;obtain⟨i,u,g⟩:=O1 D;refine⟨i,p.2,by rw[jE u,g],?_⟩;rw[<-K,Kj,jE u,g,FT,e]
 have n:∀{i k:Nat},t[i]?=some (some (d,k))->d∈t.filterMap λL=>L.map (·.1):=λh=>O5.2 ⟨_,iy h,rfl⟩;unfold bo at f m;rcases sv.1 f with f|f<;>rcases sv.1 m with m|m
 .obtain⟨i,v,y,o⟩:=JV f A;obtain⟨j,E,q,r⟩:=JV m C;have s:i=j:=(List.getElem?_inj (ix.1 o).1 Q).1 (o.trans r.symm);subst s;rw[y] at q;exact(dz<|aE q).1
 .obtain⟨i,v,y,o⟩:=JV f A;obtain⟨j,E,q,r⟩:=uj m C;exact absurd rfl (G d (iy o) d<|n r)
 .obtain⟨i,v,y,o⟩:=uj f A;obtain⟨j,E,q,r⟩:=JV m C;exact absurd rfl (G d (iy r) d<|n o)
 .obtain⟨i,v,y,o⟩:=uj f A;obtain⟨j,E,q,r⟩:=uj m C;have s:=ab1 R o r;subst s;rw[y] at q;exact(dz<|aE q).1
theorem LD{k:Nat}:∀{n:Nat},(lT k n).length=n:=by
 intro n;induction n generalizing k with
 | zero=>rfl
 | succ n b=>simp[lT,b]
theorem LF{k:Nat}:∀{n:Nat},(po k n).length=n:=by
 intro n;induction n generalizing k with
 | zero=>rfl
 | succ n b=>simp[po,b]
theorem ZA:∀{a k b:Nat},(lT k<|a+b).drop a=lT (k+a) b:=by
 intro a;induction a with
 | zero=>intro k b;rw[pv];rfl
 | succ a c =>
   intro k b;rw[show a+1+b=(a+b)+1 by omega];show(lT (k+1)<|a+b).drop a=_
   rw[c,show k+1+a=k+(a+1) by omega]
theorem ZB:∀{a k b:Nat},(po k<|a+b).drop a=po (k+a) b:=by
 intro a;induction a with
 | zero=>intro k b;rw[pv];rfl
 | succ a c =>
   intro k b;rw[show a+1+b=(a+b)+1 by omega];show(po (k+1)<|a+b).drop a=_
   rw[c,show k+1+a=k+(a+1) by omega]
def Q9:OT->Nat->aK
 | .pair .dK U,k=>.mix .dK (Q9 U k)
 | .pair o U,k=>.mix (.ptr (Ef k) 0 []) (Q9 U<|k+o.nr)
 | _,_=>.data .unit ()
theorem Wl{j:Nat->Option Box}:∀{ps:List Bool} {A:Ty} {U:OT} {x:A.den} {u:U.den} {s kT:List Value} {k m:Nat},Pg w γ.I ps A U x s kT->b5 γ j w (D7 U u (lT k U.nr)<|po m U.nb) .cells kT ->
  kV γ j w (za ps U A x k) s/\D7 U u (lT k U.nr) (po m U.nb)=Q9 U k:=by
 intro ps;induction ps with
 | nil =>
   intro A U x u s kT k m h S;obtain⟨_,rfl,rfl,_⟩:=h;exact⟨⟨rfl,λi v y d=>by cases d⟩,rfl⟩
 | cons p ps C =>
   intro A U x u s kT k m h l;cases p with
   | false =>
     cases A<;>first|(exact(show False from h).elim)|skip
     rename_i t A;obtain⟨O,f,rfl,n,Q⟩:=h;obtain⟨c,q⟩:=C Q l;refine⟨⟨by simp[za,c.1],λi v y d g=>?_⟩,q⟩;cases i with
     | zero =>
       obtain rfl:=aE d;obtain rfl:=aE g;exact⟨O,n,rfl⟩
     | succ i=>exact c.2 i v y (by simpa [za] using d) (by simpa using g)
   | true =>
     cases U<;>first|(exact(show False from h).elim)|skip
     rename_i o U;cases o<;>first|(exact(show False from h).elim)|skip
     case dK =>
      obtain⟨D,f,r,rfl,rfl,n⟩:=h;have E:D7 (.pair .dK U) u (lT k (OT.pair .dK U).nr) (po m (OT.pair .dK U).nb)=.mix .dK (D7 U u.2 (lT k U.nr)<|po m U.nb):=by
       show aK.mix .dK (D7 U u.2 ((lT k<|0+U.nr).drop 0)<|(po m<|0+U.nb).drop 0)=_
       rw[pv,pv];rfl
      rw[E] at l⊢;obtain⟨F,R,G,z,J⟩:=l;have K:F=[.pointer none]:=z;subst K;obtain⟨rfl,rfl⟩:=SM G;obtain⟨c,q⟩:=C n J;refine⟨⟨by simp[za,c.1],λi L y d g=>?_⟩,?_⟩
      .cases i with
       | zero =>
         obtain rfl:=aE d;obtain rfl:=aE g;exact rfl
       | succ i=>exact c.2 i L y (by simpa [za] using d) (by simpa using g)
      .rw[q];rfl
     rename_i tid o;obtain⟨D,f,r,rfl,rfl,n⟩:=h;have E:D7 (.pair (.ref tid o) U) u (lT k (OT.pair (.ref tid o) U).nr) (po m (OT.pair (.ref tid o) U).nb)=.mix (.ptr (Ef k) 0 []) (D7 U u.2 (lT (k+(OT.ref tid o).nr) U.nr)<|po (m+(OT.ref tid o).nb) U.nb):=by
      rw[<-ZA,<-ZB];show aK.mix (D7 (.ref tid o) u.1 _ _) _=_
      congr 1
      show(match(lT k<|o.nr+1+U.nr).take (o.nr+1) with|(b,v)::_=>aK.ptr b v []|[]=>.undef)=_
      rw[show o.nr+1+U.nr=(o.nr+U.nr)+1 by omega];rfl
     rw[E] at l⊢;obtain⟨F,R,G,z,J⟩:=l;obtain⟨v,rfl⟩:∃v,F=[v]:=by obtain⟨⟨v,e,_⟩,_⟩:=z;exact⟨v,e⟩
     obtain⟨rfl,rfl⟩:=SM G;obtain⟨c,q⟩:=C n J;refine⟨⟨by simp[za,c.1],λi L y d g=>?_⟩,?_⟩
     .cases i with
      | zero =>
        obtain rfl:=aE d;obtain rfl:=aE g;exact z
      | succ i=>exact c.2 i L y (by simpa [za] using d) (by simpa using g)
     .rw[q];rfl
theorem Wm{b:Nat->Option Box}:∀{U:OT} {k:Nat} {u:U.den} {N M:List (Nat×Nat)},KE b U k=some (u,N,M)->dd b U (Q9 U k)=some (u,N,M):=by
 intro U;induction U with
 | pair o U _ c =>
   intro k u N M h;cases o
   case dK =>
    unfold KE at h;split at h
    .rename_i i e f d;cases h;exact xv (p:=.dK) (q:=U) (x:=()) (N:=[]) (M:=[]) rfl (c d)
    .cases h
   all_goals
    unfold KE at h;split at h
    .rename_i x e f y j l g d;cases h;exact xv g (c d)
    .cases h
 | unit=>intro k u N M h;cases h;rfl
 | _=>intro k u N M h;cases h
theorem ZC:∀{a b:List (Nat×Nat)},Qr a b=true->a=b:=by
 intro a;induction a with
 | nil=>intro b h;cases b with|nil=>rfl|cons _ _=>cases h
 | cons p r c =>
   intro b h;obtain⟨x,y⟩:=p;cases b with
   | nil=>cases h
   | cons q s =>
     obtain⟨z,v⟩:=q;simp only[Qr,dF] at h;rw[eT h.1.1,eT h.1.2,c h.2]
theorem ZD:∀{n k:Nat} {p:Nat×Nat},p∈lT k n->p.2=0:=by
 intro n;induction n with
 | zero=>intro k p h;cases h
 | succ n b =>
   intro k p h;rcases fY.1 h with rfl|h
   .rfl
   .exact b h
theorem Ra:∀{a b:List Nat},a.map some=b.map some->a=b:=by
 intro a;induction a with
 | nil=>intro b h;cases b with|nil=>rfl|cons _ _=>cases h
 | cons x r c =>
   intro b h;cases b with
   | nil=>cases h
   | cons y s =>
     simp only[tg,O7,su] at h;rw[h.1,c h.2]
theorem Wn{b:Nat->Option Box}:∀{u:aK} {vs:List Value},b5 γ b w u .many vs->kV γ b w (Ed u) vs:=by
 intro u;induction u with
 | mix p q f d =>
   intro vs h;obtain⟨v,r,rfl,g,j⟩:=h;have:=d j;refine⟨by simp[Ed,this.1],λi k y c e=>?_⟩;cases i with
   | zero =>
     obtain rfl:=aE c;obtain rfl:=aE e;exact g
   | succ i=>exact this.2 i k y (by simpa [Ed] using c) (by simpa using e)
 | nl=>intro vs h;rw[show vs=[] from h];exact⟨rfl,λi v y c=>by cases c⟩
 | _=>intro vs h;exact(show False from h).elim
theorem Wo{I:Nat->Nat->Prop}:∀{R:Ty} {y:R.den} {vs:List Value},iq w I R y vs->b5 ⟨I,λ_=>none⟩ (λ_=>none) w (zS R y) .many vs:=by
 intro R;induction R with
 | pair t r d c =>
   intro y vs h;obtain⟨e,b,rfl,f,g⟩:=h;exact⟨_,b,rfl,⟨e,f,rfl⟩,c g⟩
 | unit=>intro y vs h;exact h
 | _=>intro y vs h;exact h.elim
theorem TO{b:Nat->Option Box}{v:aK}{x:Value}(h:b5 γ b w v .val [x]):kV γ b w [v] [x]:=by
 refine⟨rfl,λi e y c d=>?_⟩;cases i with
 | zero =>
   obtain rfl:=aE c;obtain rfl:=aE d;exact h
 | succ i=>cases c
theorem Wp{d:Nat->Option Box}{R:Ty}{v:aK}{c:Value}(m:b5 γ d w v .val [c]) :
  ∃f,kV γ d w (Ee R v) f/\∀(I:Nat->Nat->Prop) (y:R.den),iq w I R y f->lV w I R y c:=by
 have other:∀{R:Ty},(∀t,R≠.pair t .unit)->(∀y,ue R y=.y7 (zS R y))->∃f,kV γ d w (match v with|.y7 v=>Ed v|v=>[v]) f/\∀(I:Nat->Nat->Prop) (y:R.den),iq w I R y f->lV w I R y c:=by
  intro R n g;have one:kV γ d w [v] [c]->∃f,kV γ d w [v] f/\∀(I:Nat->Nat->Prop) (y:R.den),iq w I R y f->lV w I R y c:=by
   intro i;refine⟨[c],i,λI y h=>?_⟩;exfalso;cases R with
   | pair t r =>
     obtain⟨o,j,e,_,k⟩:=h;obtain⟨_,rfl⟩:=SM e;cases r with
     | unit=>exact n t rfl
     | pair a b=>obtain⟨_,_,p,_⟩:=k;cases p
     | _=>exact k.elim
   | unit=>cases (show [c]=[] from h)
   | _=>exact h.elim
  cases v with
  | y7 u =>
    obtain⟨l,i,k⟩:=m;refine⟨l.toList,Wn k,λI y h=>?_⟩;unfold lV;rw[g];exact⟨l,i,Wo h⟩
  | _=>exact one (TO m)
 cases R with
 | pair t r =>
   cases r with
   | unit =>
     refine⟨[c],by cases v<;>exact TO m,λI y h=>?_⟩;obtain⟨o,j,e,i,k⟩:=h;obtain⟨rfl,_⟩:=SM e;exact⟨o,i,rfl⟩
   | _ =>
     cases v<;>exact other (λq e=>by cases e) (λy=>rfl)
 | _ =>
   cases v<;>exact other (λq e=>by cases e) (λy=>rfl)
theorem Cj(agf:P.follows .mixedOrders=true)(hc:eS P cx){G:fm}(Zl:oT P G cx)(O:Pv cx){Y:Nat->sT}{n f:Nat}{ps:List Bool}{A:Ty}{U:OT}{R:Ty}{S:A.den×U.den->Option (R.den×U.den)}
  {fn:Func} {T:Code} (hfn:find cx.fns f=some fn) (m:fn.body=some T) (h:∀x y,S x=some y->Y9 cx n Y f ps A U R x=some y):eP P G f ⟨ps,A,U,R,S⟩ where
 body:=by
  have hok:=O f fn hfn;simp only[Wi,m,dF,kS] at hok;exact⟨fn,T,hc.fns f fn hfn,hok.1,m⟩
 calls:=by
  intro I w args kT j l x u y hI hG hGb Z s hnd ahG;have hs:=h (x,u) y ahG;unfold Y9 at hs;obtain⟨r,h1,W⟩:=bind_some hs;obtain⟨v,dP⟩:=r;obtain⟨y1,y2⟩:=y;have hg:∃bA M,kA (iQ dP) R (Ee R v)=some (y1,bA)/\KE bA.mem U 0=some (y2,lT 0 U.nr,M)/\(bo (lT 0 U.nr) M).Nodup/\(bo (lT 0 U.nr)<|po 0 U.nb).Nodup:=by
   dsimp only at W;split at W
   .rename_i y' bA hy';split at W
    .rename_i u' N M hu';obtain⟨h3,h4⟩:=aw W;simp only[dF] at h3;obtain rfl:=ZC h3.1.1;cases h4;exact⟨bA,M,hy',hu',Gd.1 h3.1.2,Gd.1 h3.2⟩
    .cases W
   .cases W
  obtain⟨bA,M1,hg1,hg2,hd1,X4⟩:=hg;have hlen:=s.len;have C:iG ⟨I,LC (lT 0 U.nr) (po 0 U.nb) j l⟩ (lT 0 U.nr) j:=aey X4 (by rw[LD,hlen.1]);have hLs:pF ⟨I,LC (lT 0 U.nr) (po 0 U.nb) j l⟩ (po 0 U.nb) l:=aex X4 (by rw[LF,hlen.2]);have QF:HQ (iE U u (lT 0 U.nr)<|po 0 U.nb) U u (lT 0 U.nr) (po 0 U.nb):=Td LD LF X4 λc X D=>D;have E:∀{c X},iE U u (lT 0 U.nr) (po 0 U.nb) c=some X->_:=λ{c X} D=>Ph (γ:=⟨I,LC (lT 0 U.nr) (po 0 U.nb) j l⟩) s C hLs QF D;have hm:bu ⟨w.heap.size,(·∈cW j l),G⟩ ⟨I,LC (lT 0 U.nr) (po 0 U.nb) j l⟩ (iE U u (lT 0 U.nr)<|po 0 U.nb) w :=
   { cP:=λb Q g=>by
      obtain⟨o,h1,W⟩:=hG b Q g;refine⟨λd=>?_,o,h1,W⟩;have:=(u9.1 h1).1;rcases d with d|d
      .exact absurd this (by have hb':w.heap.size<=b:=d;omega)
      .exact hGb b Q g d
     base:=cD _
     boxes:=λb X d=>(E d).1
     inj:=λb c i k k' d D e1 e2=>by
      obtain⟨X,F⟩:=aaX.1 d;obtain⟨cx',hcx⟩:=aaX.1 D;exact acr C hLs hnd (oF F) (oF hcx) e1 e2
     fresh:=λb i k d e1=>by
      obtain⟨X,F⟩:=aaX.1 d;obtain⟨_,_,g⟩:=E F;obtain⟨g1,⟨z,g2⟩,_⟩:=g i k e1;exact⟨.inr g1,(u9.1 g2).1⟩
     sV:=hI
     sep:=λb X i k off d e1 hi=>by
      obtain⟨_,_,g⟩:=E d;exact absurd hi ((g i k e1).2.2 off) }
  have J:=X2 (γ:=⟨I,LC (lT 0 U.nr) (po 0 U.nb) j l⟩) s C hLs QF;obtain⟨hv,K⟩:=Wl (γ:=⟨I,LC (lT 0 U.nr) (po 0 U.nb) j l⟩) Z J;rw[K] at J;obtain⟨_,L⟩:=H3 agf hc Zl O n 0 f ⟨w.heap.size,(·∈cW j l),G⟩ ⟨I,LC (lT 0 U.nr) (po 0 U.nb) j l⟩ (iE U u (lT 0 U.nr)<|po 0 U.nb) dP w (za ps U A x 0) args v rfl hm hv h1;refine L.mono λe w' hw=>?_;obtain⟨val,bG,rfl,m1,x1,r1⟩:=hw;obtain⟨xs,u1,u2⟩:=Wp (R:=R) r1;have ajq:cQ ⟨w.heap.size,(·∈cW j l),G⟩ 0 bG (iQ dP) { tmps:=#[],defers:=[] } w' :=
   { slots:=λt=>⟨_,rfl⟩
     size:=rfl
     defers:=rfl
     ok:=m1 }
  obtain⟨γ2,s1,s2,s3⟩:=qY ajq u1 hg1;have xx:=x1.trans s2;obtain⟨bs',k1,k2,k3⟩:=Pj s1.ok (J.ext xx) (Wm hg2);have hbs:bs'=j:=by
   unfold iG at k1 C;have:(lT 0 U.nr).map (λp=>(γ2.loc p.1).map (·.1))=(lT 0 U.nr).map (λp=>(LC (lT 0 U.nr) (po 0 U.nb) j l p.1).map (·.1)):=by
    refine Qj λp hp=>?_;obtain⟨rN,j1,j2,_⟩:=k3 p (nB _ hp);obtain⟨bx0,F⟩:=Gg (u:=u) (LD (k:=0) (n:=U.nr)) (LF (k:=0) (n:=U.nb)) (nB _<|vb.2 ⟨p,hp,rfl⟩);obtain⟨Pr,q1,q2,q3⟩:=xx.boxes _ bx0 F;rw[j1] at q1;obtain rfl:=aE q1;have hp0:p.2=0:=ZD hp;rw[(q3<|by omega).1]
   rw[this,C] at k1;exact(Ra k1).symm
  subst hbs;refine⟨val,γ2.I,_,rfl,xx.below,xx.I,s1.ok.sV,λb o hi hn=>(xx.pC b o hi).resolve_left hn,u2 _ _ s3,k2,HR s1.ok k1 k3 hd1,λi d=>?_⟩;obtain⟨b,k,⟨X,j1⟩,j2⟩:=Pl k1 k3 (blk:=i) (by unfold cW at d⊢;exact mP _ (by simpa using d));rcases(s1.ok.fresh b i k (by rw[j1];simp) j2).1 with q|q
  .exact .inr q
  .exact .inl q
end
end Go.Ge
namespace Go.Ge
open RowKit ChangeShapes
def NR{α:Type}(f:α->Nat):List α->Nat
 | []=>0
 | x::r=>f x+NR f r
def Ty.bulk:(t:Ty)->t.den->Nat
 | .int _,_=>1
 | .bool,_=>1
 | .str,s=>List.length (α:=UInt8) s+1
 | .slice e,l=>NR e.bulk l+1
 | .arr _ e,l=>NR e.bulk l
 | .pair a b,x=>a.bulk x.1+b.bulk x.2
 | .unit,_=>0
 | .alt _ _ _,_=>0
 | .zH,_=>0
def Ty.Ck:Ty->Bool
 | .slice e=>e.Ck
 | .arr _ e=>e.Ck
 | .pair a b=>a.Ck&&b.Ck
 | .alt _ _ _=>false
 | .zH=>false
 | _=>true
structure LG {H:Type} (bulk:DataW H->Nat) (all:List (DataW H)->Nat):Prop where
 lit:∀l,1<=bulk (.lit l)
 str:∀s,bulk (.lit<|.string s)=s.length+1
 nil:1<=bulk .nil
 slice:∀e s,bulk (.slice e s)=all e+all s+1
 agg:∀p,bulk (.agg p)=all p+1
 none:all []=0
 cons:∀d r,all (d::r)=bulk d+all r
theorem Bt{α c:Type}{f:α->Option c}:∀{l:List α} {ys:List c},l.mapM f=some ys->ys.length=l.length/\∀(i:Nat) x,l[i]?=some x->f x=ys[i]?:=by
 intro l;induction l with
 | nil=>intro ys h;obtain rfl:=aE (show some []=some ys by simpa using h);exact⟨rfl,λi x b=>by cases b⟩
 | cons a l d =>
   intro ys h;rw[XP] at h;obtain⟨y,e,g⟩:=zM.1 h;obtain⟨j,k,m⟩:=zM.1 g;obtain rfl:y::j=ys:=aE m;obtain⟨n,o⟩:=d k;refine⟨by simp[n],λi x b=>?_⟩;cases i with
   | zero=>obtain rfl:=aE b;exact e
   | succ i=>exact o i x (by simpa using b)
theorem H4{α e:Type}{R:Nat->α->e->Prop}:∀{ys:List e} {k:Nat},(∀i y,ys[i]?=some y->∃x,R (k+i) x y)->∃d:List α,d.length=ys.length/\∀i x y,d[i]?=some x->ys[i]?=some y->R (k+i) x y:=by
 intro ys;induction ys with
 | nil=>intro k _;exact⟨[],rfl,λi x y h=>by cases h⟩
 | cons y ys f =>
   intro k h;obtain⟨x,g⟩:=h 0 y rfl;obtain⟨d,j,l⟩:=f (k:=k+1) λi y m=>by
    have:=h (i+1) y (by simpa using m)
    rwa [show k+(i+1)=k+1+i by omega] at this
   refine⟨x::d,by simp[j],λi n o b c=>?_⟩;cases i with
   | zero=>obtain rfl:=aE b;obtain rfl:=aE c;exact g
   | succ i =>
     rw[show k+(i+1)=k+1+i by omega];exact l i n o (by simpa using b) (by simpa using c)
theorem Ya{α c:Type}{f:α->Nat}{g:c->Nat}:∀{b:List α} {ys:List c},b.length=ys.length->(∀(i:Nat) x y,b[i]?=some x->ys[i]?=some y->f x<=g y)->NR f b<=NR g ys:=by
 intro b;induction b with
 | nil=>intro ys _ _;exact pj _
 | cons x b e =>
   intro ys d h;cases ys with
   | nil=>cases d
   | cons y ys =>
     have l:=h 0 x y rfl rfl;have m:=e (ys:=ys) (by simpa using d) λi x y j k=>h (i+1) x y (by simpa using j) (by simpa using k);simp only[NR];omega
section
variable {H:Type} {enc:TypeId×Value->H} {P:Program} {w:World} {held:Bool} {bulk:DataW H->Nat} {all:List (DataW H)->Nat}
theorem Yb(b:LG bulk all){c:Type}(f:c->DataW H):∀l:List c,all (l.map f)=NR (λy=>bulk (f y)) l:=by
 intro l;induction l with
 | nil=>exact b.none
 | cons y l d=>rw[tg,b.cons,d];rfl
def old(w:World):Nat->Nat->Prop:=λb _=>b<w.heap.size
theorem H5{a:Addr}{n:Nat}{b:List Value}(h:w.cells? 0 a n=some b):b.length=n/\∀j,j<n->w.cell? (a.add j)=b[j]?:=by
 unfold World.cells? at h;rw[bd<|pj _] at h;obtain⟨c,d⟩:=Bt h;refine⟨by simpa using c,λj e=>d j j ?_⟩;simp[e]
theorem TP{b o:Nat}{v:Value}{d:Option Nat}(h:w.cell? ⟨b,o,d⟩=some v):b<w.heap.size/\d=none:=by
 unfold World.cell? at h;split at h
 .rename_i c t f e;refine⟨(u9.1 e).1,?_⟩;split at h
  .cases h
  .rename_i g;cases d with
   | none=>rfl
   | some s=>exact absurd rfl g
 .cases h
theorem acs(q:LG bulk all):∀{t:Ty},t.Ck=true ->
  (∀{fuel tid:Nat} {cs:List Value} {d:DataW H} {ps:List MemPlace},Den P t tid->DataW.trod enc P w 0 (λ_=>true) held fuel tid cs=some (d,ps)->∃x:t.den,bB w (old w) t x cs/\t.bulk x<=bulk d) /\
  (∀{fuel off:Nat} {G:List Field} {cs:List Value} {l:List (DataW H×List MemPlace)},pq P t off G->(G.mapM λf=>DataW.trod enc P w 0 (λ_=>true) held fuel f.type ((cs.drop f.offset).take<|P.cellsOf f.type))=some l ->
   cs.length=off+t.size->∃x:t.den,bB w (old w) t x (cs.drop off)/\t.bulk x<=all (l.map (·.1))):=by
 intro t;induction t with
 | int k =>
   intro c;refine⟨λ{fuel tid cs d ps} hd h=>?_,λhd=>by simp[pq,ew] at hd⟩;cases fuel with
   | zero=>cases h
   | succ fuel =>
     simp only[DataW.trod,hd.int] at h;split at h<;>first|(exfalso;simp_all;done)|skip
     rename_i k0 k' n hk;split at h
     .rename_i I;obtain⟨rfl,rfl⟩:=dz (aE h);injection hk with hk;injection hk with hk;subst hk
      obtain⟨rfl,L⟩:=I;simp only[Lit.wf,dF,nI] at L;exact⟨(n:Int),⟨rfl,L.1,L.2⟩,q.lit _⟩
     .cases h
 | bool =>
   intro c;refine⟨λ{fuel tid cs d ps} hd h=>?_,λhd=>by simp[pq,ew] at hd⟩;cases fuel with
   | zero=>cases h
   | succ fuel =>
     simp only[DataW.trod,hd.bool] at h;split at h<;>first|(exfalso;simp_all;done)|skip
     rename_i b _;obtain⟨rfl,rfl⟩:=dz (aE h);exact⟨b,rfl,q.lit _⟩
 | str =>
   intro c;refine⟨λ{fuel tid cs d ps} hd h=>?_,λhd=>by simp[pq,ew] at hd⟩;cases fuel with
   | zero=>cases h
   | succ fuel =>
     simp only[DataW.trod,hd.str] at h;split at h<;>first|(exfalso;simp_all;done)|skip
     rename_i s _;split at h
     .rename_i hs;obtain⟨rfl,rfl⟩:=dz (aE h);refine⟨s.data.toList,⟨?_,?_⟩,?_⟩
      .rfl
      .have:List.length (α:=UInt8) s.data.toList=s.size:=Kl;rw[this];exact hs
      .rw[q.str];exact cD _
     .cases h
 | slice e O =>
   intro c;have O:=O c;refine⟨λ{fuel tid cs d ps} hd h=>?_,λhd=>by simp[pq,ew] at hd⟩;obtain⟨Y1,h1,Q,h3,h4⟩:=hd.slice;cases fuel with
   | zero=>cases h
   | succ fuel =>
     simp only[DataW.trod,h1] at h;split at h<;>first|(exfalso;simp_all;done)|skip
     .obtain⟨rfl,rfl⟩:=dz (aE h);exact⟨([]:List e.den),.inl ⟨⟨none,rfl⟩,rfl⟩,q.nil⟩
     .rename_i e' a S z he;injection he with he;injection he with he;subst he
      split at h
      case isFalse=>cases h
      rename_i I;obtain⟨hc1,hc2,hc3⟩:=I;obtain⟨m,J,T⟩:=zM.1 h;obtain⟨rest,g3,g4⟩:=uc.1 T;obtain⟨rfl,rfl⟩:=dz g4;simp only[mh] at g3;obtain⟨X,Y⟩:=Bt J;obtain⟨m1,m2⟩:=Bt g3;simp only[XI] at X m1;rw[Q.cells] at Y m2;by_cases af6:z=0
      .subst af6;obtain rfl:S=0:=by omega
       exact⟨([]:List e.den),.inl ⟨⟨some a,rfl⟩,rfl⟩,by rw[q.slice];simp[Ty.bulk,NR]⟩
      ·
       have hat:∃y,(w.cells? 0 a e.size).bind (DataW.trod enc P w 0 (λ_=>true) held fuel Y1)=some y:=by
        by_cases hlen:S=0
        .have:=m2 0 0 (O3<|by omega);have o:0<rest.length:=by omega
         rw[jE o] at this;rw[hlen] at this;simp only[pv,O9] at this;exact⟨_,by rw[<-this];simp[Addr.add]⟩
        .have:=Y 0 0 (O3<|by omega);have o:0<m.length:=by omega
         rw[jE o] at this;simp only[O9] at this;exact⟨_,by rw[<-this];simp[Addr.add]⟩
       obtain⟨y,C⟩:=hat;obtain⟨Z,hes,_⟩:=zM.1 C;obtain⟨z1,z2⟩:=H5 hes;have z3:=z2 0 h4;rw[jE<|by omega] at z3;have p:a.spot=none:=by
        have:a.add 0=a:=by simp[Addr.add]
        rw[this] at z3;obtain⟨D,off,sp⟩:=a;exact(TP z3).2
       obtain⟨D,off,sp⟩:=a;dsimp only at p;subst p;obtain⟨l,E,K⟩:=H4 (R:=λi (x:e.den) (y:DataW H×List MemPlace)=>(∃Z:List Value,Z.length=e.size /\
         (∀(j:Nat) v,Z[j]?=some v->w.cell? ⟨D,off+i*e.size+j,none⟩=some v/\old w D (off+i*e.size+j))/\bB w (old w) e x Z)/\e.bulk x<=bulk y.1) (ys:=m) (k:=0) λi y hi=>by
        have o:=(ix.1 hi).1;have:=Y i i (O3<|by omega);rw[hi] at this;obtain⟨Z,q1,q2⟩:=zM.1 this;rw[addr_add] at q1;obtain⟨q3,q4⟩:=H5 q1;obtain⟨x,r1,r2⟩:=O.1 (d:=y.1) (ps:=y.2) Q q2;refine⟨x,⟨Z,q3,λj v hv=>?_,r1⟩,r2⟩;have hj:=(ix.1 hv).1;have:=q4 j (by omega);rw[addr_add,hv] at this;rw[pv];exact⟨this,(TP this).1⟩
       refine⟨l,.inr ⟨D,off,z,?_,?_,hc3,λi x U=>?_⟩,?_⟩
       .show [Value.slice _ S z]=[Value.slice _ (List.length (α:=e.den) l) z]
        rw[E,X]
       .show List.length (α:=e.den) l<=z
        rw[E,X];exact hc2
       .have A:l[i]?=some x:=U;have o:=(ix.1 A).1;obtain⟨y,C⟩:∃y,m[i]?=some y:=⟨_,jE (by omega)⟩;have:=(K i x y A C).1;rw[pv] at this;exact this
       .rw[q.slice,Yb q];have:=Ya (f:=e.bulk) (g:=λy:DataW H×List MemPlace=>bulk y.1) E λi x y U C=>(K i x y U C).2;show NR e.bulk l+1<=_
        omega
 | arr n e O =>
   intro c;have O:=O c;refine⟨λ{fuel tid cs d ps} hd h=>?_,λhd=>by simp[pq,ew] at hd⟩;obtain⟨Y1,h1,Q,h4⟩:=hd.arr;cases fuel with
   | zero=>cases h
   | succ fuel =>
     simp only[DataW.trod,h1] at h;split at h
     case isFalse=>cases h
     rename_i I;obtain⟨ys,J,T⟩:=uc.1 h;obtain⟨rfl,rfl⟩:=dz T;obtain⟨X,Y⟩:=Bt J;simp only[XI] at X;rw[Q.cells] at Y;obtain⟨l,E,K⟩:=H4 (R:=λi (x:e.den) (y:DataW H×List MemPlace)=>bB w (old w) e x ((cs.drop<|i*e.size).take e.size)/\e.bulk x<=bulk y.1) (ys:=ys) (k:=0) λi y hi=>by
      have o:=(ix.1 hi).1;have:=Y i i (O3<|by omega);rw[hi] at this;obtain⟨x,r1,r2⟩:=O.1 (d:=y.1) (ps:=y.2) Q this;exact⟨x,by rw[pv];exact r1,r2⟩
     refine⟨l,⟨?_,?_,λi x U=>?_⟩,?_⟩
     .show List.length (α:=e.den) l=n
      rw[E,X]
     .rw[I,hd.cells];rfl
     .have A:l[i]?=some x:=U;have o:=(ix.1 A).1;obtain⟨y,C⟩:∃y,ys[i]?=some y:=⟨_,jE (by omega)⟩;have:=(K i x y A C).1;rw[pv] at this;exact this
     .rw[q.agg,Yb q];have:=Ya (f:=e.bulk) (g:=λy:DataW H×List MemPlace=>bulk y.1) E λi x y U C=>(K i x y U C).2;show NR e.bulk l<=_
      omega
 | pair a b F W =>
   intro c;simp only[Ty.Ck,dF] at c;have F:=F c.1;have W:=W c.2;have chain:∀{fuel off:Nat} {G:List Field} {cs:List Value} {l:List (DataW H×List MemPlace)},pq P (.pair a b) off G->(G.mapM λf=>DataW.trod enc P w 0 (λ_=>true) held fuel f.type ((cs.drop f.offset).take<|P.cellsOf f.type))=some l ->
     cs.length=off+(Ty.pair a b).size->∃x:(Ty.pair a b).den,bB w (old w) (.pair a b) x (cs.drop off)/\(Ty.pair a b).bulk x<=all (l.map (·.1)):=by
    intro fuel off G cs l hd h hl;obtain⟨f,r,rfl,f1,_,f2,f3,f4⟩:=hd.cons;rw[XP] at h;obtain⟨y,J,T⟩:=zM.1 h;obtain⟨ys,g3,g4⟩:=zM.1 T;obtain rfl:y::ys=l:=aE g4;rw[f1,f2.cells] at J;obtain⟨E,p1,p2⟩:=F.1 (d:=y.1) (ps:=y.2) f2 J;obtain⟨K,q1,q2⟩:=W.2 f4 g3 (by simp only[Ty.size] at hl;omega);refine⟨(E,K),⟨_,_,?_,p1,q1⟩,?_⟩
    .rw[<-vZ,x6]
    .rw[tg,q.cons];show a.bulk E+b.bulk K<=_
     omega
   refine⟨λ{fuel tid cs d ps} hd h=>?_,chain⟩;obtain⟨G,h1,Q,_⟩:=hd.pair;cases fuel with
   | zero=>cases h
   | succ fuel =>
     simp only[DataW.trod,h1] at h;split at h
     case isFalse=>cases h
     rename_i I;obtain⟨ys,J,T⟩:=uc.1 h;obtain⟨rfl,rfl⟩:=dz T;rw[hd.cells] at I;obtain⟨x,r1,r2⟩:=chain Q J (by rw[I,pv]);exact⟨x,by simpa using r1,by rw[q.agg];omega⟩
 | alt u a r F ihr=>intro c;cases c
 | zH=>intro c;cases c
 | unit =>
   intro c;refine⟨λhd=>by simp[Den,ew] at hd,λ{fuel off G cs l} hd h hl=>?_⟩;exact⟨(),by show cs.drop off=[];rw[List.drop_eq_nil_iff];simp[Ty.size] at hl;omega,pj _⟩
end
end Go.Ge
