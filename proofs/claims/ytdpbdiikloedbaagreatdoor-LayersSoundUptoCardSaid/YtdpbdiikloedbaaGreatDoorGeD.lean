/- A ghost interpreter of the model's code, and that it tells the truth: part 4. It says of a function of plain data what a call of it comes to. -/
import Derived.Test.YtdpbdiikloedbaaGreatDoorGeC
import Derived.Great.BuildSlice
import Derived.Laws.IdiomStrings
import Derived.Laws.BytesArg
import Derived.Laws.MakeOwn
import Derived.Deep.AppendSrc
set_option linter.unusedSectionVars false
namespace Go.Ge
open RowKit
section
variable {P:Program} {B:qK} {N:Nat} {γ:Gh} {σ bb:St} {a:Act} {w:World} {d:Option Nat} {cx:Ctx}
theorem T4{bx:bF}{k:Nat}{c v:aO}{f:aO->Tree aO}(j:bx.buf=false)(l:bx.val=v)(h:(Ez v k f).run=some c):({ bx with val:=c }:bF).row=bx.row:=by
 obtain⟨g,tid,m,r,s,o⟩:=bx;subst j;subst l;cases g with
 | data t x =>
   obtain⟨y,i,b⟩:=bind_some (show((HJ t x k f).bind λy=>.ret (.data t y)).run=some c from h);obtain rfl:=aI b;cases t with
   | arr n e=>cases k<;>exact absurd i (by intro k;cases k)
   | _=>rfl
 | mix p q =>
   cases k with
   | zero =>
     obtain⟨y,i,b⟩:=bind_some (show((f p).bind λv=>.ret (.mix v q)).run=some c from h);obtain rfl:=aI b;rfl
   | succ k =>
     obtain⟨y,i,b⟩:=bind_some (show((Ez q k f).bind λv=>.ret (.mix p v)).run=some c from h);obtain rfl:=aI b;rfl
 | _=>exact absurd h (by intro k;cases k)
theorem acy{bx:bF}{e:Ty}{l:List e.den}{i:Int}{y:e.den}(b:bx.buf=true)(c:bx.val=.data (.slice e) l):({ bx with val:=.data (.slice e) (lR l i y) }:bF).row=bx.row:=by
 rw[bF.dk b c,bF.dk (bx:={ bx with val:=.data (.slice e) (lR l i y) }) (l:=lR l i y) b rfl];simp[lR]
theorem Ga{bx:bF}{p:List B9}{v c:aO}(h:(HK bx.buf p bx.val v).run=some c)(m:p=[]->bx.buf=false->({ bx with val:=v }:bF).row=bx.row) :
  ({ bx with val:=c }:bF).row=bx.row:=by
 unfold HK at h;split at h
 .rename_i b;cases p with
  | nil=>obtain rfl:=aI h;exact m rfl b
  | cons s p =>
    cases s with
    | fJ k off=>exact T4 b rfl h
    | idx i size =>
      simp only[wg] at h;split at h
      .rename_i n e l g;obtain⟨x,o,j⟩:=b4 h;obtain⟨z,q,f⟩:=bind_some j;split at f
       .obtain rfl:=aI f;rw[bF.p4 b g];exact bF.p4 (bx:={ bx with val:=_ }) b rfl
       .exact absurd f (by intro k;cases k)
      .exact absurd h (by intro k;cases k)
 .rename_i b;split at h
  .rename_i i size p e l g;obtain⟨x,o,j⟩:=b4 h;obtain⟨z,q,f⟩:=bind_some j;split at f
   .obtain rfl:=aI f;exact acy b g
   .exact absurd f (by intro k;cases k)
  .exact absurd h (by intro k;cases k)
theorem BB(h:cW B N γ σ a w){b aP:Nat}{p:List B9}{O:aO->Bool}{u:aO}{es:List Value}(Q:(storeAt b aP p O u σ).run=some bb)(hu:cl γ σ.mem w u .cells es)
  (U:∀H,O H=true->es.length=cV H) (V:∀bx:bF,O bx.val=true->bx.buf=false->({ bx with val:=u }:bF).row=bx.row)
  {m o:Nat} (R:γ.loc b=some (m,o)) :
  ∃w',(storeCells ⟨m,cG p,none⟩ es).run P w=.ok () w'/\cW B N γ bb a w'/\Ext B γ σ.mem w γ bb.mem w':=by
 unfold storeAt at Q;split at Q
 case h_2=>exact absurd Q (by intro k;cases k)
 rename_i bx hb;obtain⟨hc,hr2⟩:=aC Q;simp only[dv,jL] at hc;obtain⟨⟨ajD,hlk⟩,W⟩:=hc;obtain⟨H,q,hr3⟩:=bind_some hr2;obtain⟨L,hr4⟩:=aC hr3;obtain⟨c,S,hr5⟩:=bind_some hr4;obtain rfl:=aI hr5;have r:=U H L;have X:({ bx with val:=c }:bF).row=bx.row:=Ga S λhp g=>by
  subst hp;rw[g] at q;obtain rfl:=aI q;exact V bx L g
 have t:=h.ok.boxes b bx hb;unfold cE at t;unfold Xm at q;unfold HK at S;have hbb:bx.buf=false\/bx.buf=true:=by cases bx.buf<;>simp
 rcases hbb with g|g
 .rw[g] at t q S;obtain⟨Y,Z,f,tid,fr,h1,h2,F,A,h4⟩:=t;rw[R] at h1;obtain⟨rfl,rfl⟩:=br (aI h1);obtain⟨k1,k2⟩:=vw h4 q;have C:cG p+es.length<=f.toList.length:=by rw[r];exact k1
  have D:=cM (P:=P) m (cG p) tid fr es 0 f w h2 F (by simpa using C) (λv hv=>hu.one v hv);rw[wS] at D;have J:(aU f.toList (cG p) es).toArray.size=f.size:=by have:=bM C;simpa using this
  obtain⟨m1,m2⟩:=h.ok.write hb W R h2 (cur':=(aU f.toList (cG p) es).toArray) (v:=c) J X
   (λw' dL G hg=>by
    show cE γ dL w' b { bx with val:=c }
    unfold cE;simp only[g];exact⟨m,o,_,tid,fr,R,hg,F.same J,A,by simpa using xY (h4.ext G) q S (hu.ext G) r⟩)
  exact⟨_,D,h.go m2 m1,m2⟩
 .rw[g] at t q S;obtain⟨e,l,h1,h2,F⟩:=t;rw[h1] at q S;rcases F with ⟨F,_⟩|⟨Y,Z,f,tid,fr,F,h4,h5,A,h6,h7,h8,h9⟩
  .rw[R] at F;cases F
  .rw[R] at F;obtain⟨rfl,rfl⟩:=br (aI F);cases p with
   | nil=>cases q
   | cons s p =>
     cases s with
     | fJ k off=>cases q
     | idx i size =>
       obtain⟨hsb,hn2⟩:=aC q;have J:=eT hsb;obtain⟨x,G,hn3⟩:=b4 hn2;obtain⟨x',hx',hs2⟩:=b4 S;obtain rfl:x=x':=aI (G.symm.trans hx');obtain⟨z,hq,K⟩:=bind_some hs2;cases hz:toS e z with
       | none=>rw[hz] at K;cases K
       | some y =>
         rw[hz] at K;obtain rfl:=aI K;obtain⟨h0,hx2⟩:=sv G;have Q:=h9 _ x hx2;have hrl:=Q.length;have hi:i.toNat<l.length:=(fq.1 hx2).1;have hm2:(i.toNat+1)*e.size<=o*e.size:=fO _ (by omega);rw[zm] at hm2;have hrr:cl γ σ.mem w (.data e x) .cells ((f.toList.drop<|i.toNat*e.size).take e.size):=Q;obtain⟨k1,k2⟩:=vw hrr hn3;rw[hrl] at k1;have T:f.toList.length=o*e.size:=by simpa using h8
         have M:cG (.idx i size::p)=i.toNat*e.size+cG p:=by simp only[cG,J]
         have C:cG (.idx i size::p)+es.length<=f.toList.length:=by rw[M,r,T];omega
         have D:=cM (P:=P) m (cG (.idx i size::p)) tid fr es 0 f w h4 h5.th (by simpa using C) (λv hv=>hu.one v hv);rw[wS] at D;have E:(aU f.toList (cG (.idx i size::p)) es).toArray.size=f.size:=by have:=bM C;simpa using this
         have e1:=rN f.toList (i.toNat*e.size) (cG p) e.size es (by rw[r];exact k1) (by rw[T];omega);obtain⟨m1,m2⟩:=h.ok.write hb W R h4 (cur':=(aU f.toList (cG (.idx i size::p)) es).toArray) (v:=.data (.slice e) (lR (α:=e.den) l i y)) E X
          (λw' dL G hg=>by
           show cE γ dL w' b { bx with val:=.data (.slice e) (lR (α:=e.den) l i y) }
           unfold cE;simp only[g];refine⟨e,_,rfl,h2,.inr ⟨m,o,_,tid,fr,R,hg,h5.same E,A,?_,h7,by rw[E];exact h8,?_⟩⟩
           .exact gj (Bt List.length_set) h6
           .have hzz:=HT hz (xY (hrr.ext G) hn3 hq (hu.ext G) r);have:=IW (w:=w') (I:=γ.I) (l:=l) (n:=l.length) (cs:=f.toList) rfl (by rw[T];exact fO _ h6)
             (λj x hj=>bI.mono G.I G.cells (h9 j x hj)) hi hzz
            rw[e1,<-M] at this;exact this)
         exact⟨_,D,h.go m2 m1,m2⟩
theorem Xw{c:Nat->Option bF}:∀{t:Ty} {x:t.den} {cs:List Value},bI w γ.I t x cs->cl γ c w (Z2 t x) .cells cs:=by
 intro t;induction t with
 | pair a b g f=>intro x cs h;obtain⟨i,j,e,k,l⟩:=h;exact⟨i,j,e,k,f l⟩
 | _=>intro x cs h;exact h
theorem M8{b:Nat->Option bF}{v:aO}{c:List Value}(h:cl γ b w v .cells c):cl γ b w (Z3 v) .cells c:=by
 cases v with
 | data t x=>exact Xw h
 | _=>exact h
theorem Rj{bx:bF}(e:bx.buf=false)(c:Z5 bx.val=true):bx.row=none:=by
 unfold bF.row;rw[e];obtain⟨b,tid,f,h,i,g⟩:=bx;cases b with
 | data t x=>cases t<;>first|rfl|cases c
 | mix p q=>rfl
 | _=>cases c
theorem Lq(h:cW B N γ σ a w){b y:Nat}{p:List B9}{n:Nat}{u:aO}{es:List Value}(x:(rJ b y p n u σ).run=some bb)(L:cl γ σ.mem w u .cells es)
  (j:es.length=n) {g l:Nat} (z:γ.loc b=some (g,l)) :
  ∃w',(storeCells ⟨g,cG p,none⟩ es).run P w=.ok () w'/\cW B N γ bb a w'/\Ext B γ σ.mem w γ bb.mem w':=by
 unfold rJ at x;split at x
 case h_2=>exact absurd x (by intro k;cases k)
 rename_i bx M;obtain⟨O,A⟩:=aC x;simp only[dv,jL] at O;obtain⟨⟨⟨⟨Q,hlk⟩,C⟩,e⟩,D⟩:=O;obtain⟨E,R,F⟩:=bind_some A;obtain⟨m,G⟩:=aC F;obtain⟨c,hs,H⟩:=bind_some G;obtain⟨I,J⟩:=aC H;obtain rfl:=aI J;have o:es.length=cV E:=j.trans (eT m).symm;have K:({ bx with val:=c }:bF).row=bx.row:=(Rj (bx:={ bx with val:=c }) e I).trans (Rj e D).symm;have i:=h.ok.boxes b bx M;unfold cE at i;rw[e] at i;obtain⟨S,T,f,tid,U,V,W,X,q,Y⟩:=i;rw[z] at V;obtain⟨rfl,rfl⟩:=br (aI V);obtain⟨k1,k2⟩:=vw (M8 Y) R;have r:cG p+es.length<=f.toList.length:=by rw[o];exact k1
 have s:=cM (P:=P) g (cG p) tid U es 0 f w W X (by simpa using r) (λv hv=>L.one v hv);rw[wS] at s;have t:(aU f.toList (cG p) es).toArray.size=f.size:=by have:=bM r;simpa using this
 obtain⟨m1,Z⟩:=h.ok.write M C z W (cur':=(aU f.toList (cG p) es).toArray) (v:=c) t K
  (λw' dL hx hg=>by
   show cE γ dL w' b { bx with val:=c }
   unfold cE;simp only[e];exact⟨g,l,_,tid,U,z,hg,X.same t,q,by simpa using xY (M8<|Y.ext hx) R hs (L.ext hx) o⟩)
 exact⟨_,s,h.go Z m1,Z⟩
theorem zy{g:TypeId}{b c n:Nat}{v:Value}{h:World}(i:(Go.sizeOf g).run P w=.ok n w)(j:v.cells.toList.length=n)(e:(storeCells ⟨b,c,none⟩ v.cells.toList).run P w=.ok () h) :
  (Instr.storeAt g (.pointer<|some ⟨b,c,none⟩) v).run P w=.ok () h:=by
 have f:v.cells.size=n:=by simpa using j
 simp only[Instr.storeAt,Instr.sureAddr,storeVar,Sem.run_bind,Sem.run_pure,Result.andThen_ok,i,f,ne_eq,not_true_eq_false,pR];exact e
theorem G2(s:fo P cx){bf:List Nat}{O:TypeId}{x y:Operand}(h:cW B N γ σ a w)(F:(lr cx bf O (cD σ x) (cD σ y) σ).run=some bb) :
  ∃w' bQ,(Instr.storeAt O (a.eval x)<|a.eval y).run P w=.ok () w'/\cW B N bQ bb a w'/\Ext B γ σ.mem w bQ bb.mem w':=by
 have hv:=h.cD x;have hy:=h.cD y;unfold lr at F;split at F
 case h_2=>exact absurd F (by intro k;cases k)
 rename_i b R p hx;rw[hx] at hv;split at F
 case h_2=>exact absurd F (by intro k;cases k)
 rename_i bx hb;obtain⟨m,S⟩:=aC F;have m:=eT m;obtain⟨C,hn,D⟩:=bind_some S;obtain⟨U,V,W,o⟩:=bk hb m hv.2;obtain o:a.eval x=_:=by simpa using o
 rw[o];split at D
 .rename_i u z;obtain⟨A,c⟩:=aC D;have A:=iK A;have hD:=s.T _ _ A;cases X:cP bf 8000000&&Z4 u (cD σ y) with
  | true =>
    rw[X] at c;have how:=(Bool.and_eq_true_iff.1 X).2;have r:cl γ σ.mem w (cD σ y) .cells (a.eval y).cells.toList:=by
     refine hy.kD (λu' e=>?_) (λe=>?_)
     .rw[e] at how;cases how
     .rw[e] at how;cases how
    have E:cV (cD σ y)=u.size:=by
     unfold Z4 at how;split at how
     .rename_i e;rw[e];exact Xu how
     .rename_i e;rw[e];exact I3 how
     .cases how
    have f:(a.eval y).cells.toList.length=u.size:=by rw[r.length,E]
    obtain⟨w',G,H,I⟩:=Lq (P:=P) h c r f W;exact⟨w',γ,zy (hD.sizeOf w) f G,H,I⟩
  | false =>
  rw[X] at c;replace c:(match wW σ u (cD σ y) with|some (y,σ)=>storeAt b R p (Xo u) (.data u y) σ|none=>.fail).run=some bb:=c;split at c
  .rename_i y0 bG hg;obtain⟨J,s1,s2,s3⟩:=mA h hy hg;obtain⟨cs,Q,c2⟩:=s3;obtain Y:a.eval y=_:=by simpa using c2
   have K:(a.eval y).cells.toList=cs:=by rw[Y];exact rM Q
   obtain⟨Z,g1,g2,g3⟩:=s2.boxes b bx hb;have hl1:J.loc b=some (U,V):=by
    have hv':Z.aP=bx.aP:=by
     unfold storeAt at c;split at c
     .rename_i bx2 L;rw[g1] at L;obtain rfl:=aI L;obtain⟨s,_⟩:=aC c;simp only[dv] at s;have:=eT s.1.1;omega
     .exact absurd c (by intro k;cases k)
    rw[(g3 hv').1];exact W
   obtain⟨w',G,H,I⟩:=BB (P:=P) s1 c (u:=.data u y0) (es:=cs) Q (λC g=>by
    unfold Xo at g;split at g
    .rename_i t q;obtain rfl:=Ty.eq_of_beq g;exact Q.length
    .cases g) (λbx g i=>by
    unfold Xo at g;split at g
    .rename_i t q M;obtain rfl:=Ty.eq_of_beq g;cases t with
     | arr n e=>rw[bF.p4 i M];exact bF.p4 (bx:={ bx with val:=_ }) i rfl
     | _=>unfold bF.row;rw[i,M]
    .cases g) hl1
   refine⟨w',J,zy (hD.sizeOf w) ?_ ?_,H,s2.trans I⟩
   .rw[K];exact Q.length
   .rw[K];exact G
  .exact absurd c (by intro k;cases k)
 .obtain⟨A,c⟩:=aC D;simp only[dv] at A;obtain⟨hrt,l⟩:=A;have key:∀{v:aO},wj cx O v=true->isRef v=true->cV v=1/\(Go.sizeOf O).run P w=.ok 1 w:=by
   intro v j h2;unfold wj at j;split at j
   .cases h2
   .split at j
    .rename_i e A;exact⟨rfl,(s.T _ _ A).sizeOf w⟩
    .cases j
   .exact⟨rfl,(s.rh _ j).2.1 w⟩
   .exact⟨rfl,(s.rh _ j).2.1 w⟩
   .exact⟨rfl,(s.rh _ j).2.1 w⟩
   .cases j
  obtain⟨j,E⟩:=key hrt l;have r:cl γ σ.mem w (cD σ y) .cells (a.eval y).cells.toList:=by
   refine hy.kD (λu e=>?_) (λe=>?_)
   .rw[e] at l;cases l
   .rw[e] at l;cases l
  have f:(a.eval y).cells.toList.length=1:=by rw[r.length,j]
  obtain⟨w',G,H,I⟩:=BB (P:=P) h c r (λC g=>by
   simp only[wc,dv] at g;rcases g with g|g
   .rw[f,(key g.1 g.2).1]
   .rw[f];cases C<;>first|rfl|cases g) (λbx g i=>by
   simp only[wc,dv] at g;have e1:∀{v:aO} {bx:bF},(isRef v=true\/Wf v=true)->bx.buf=false->bx.val=v->bx.row=none:=by
    intro v bx j h2 h3;unfold bF.row;rw[h2,h3];cases v<;>first|rfl|(rcases j with j|j<;>cases j)
   rw[e1 (g.elim (λq=>.inl q.2) .inr) i rfl];exact e1 (bx:={ bx with val:=cD σ y }) (.inl l) i rfl) W
  exact⟨w',γ,zy E f G,H,I⟩
theorem rn(t:TypeId)(v:Value):(newVar t v).run P w=.ok ⟨w.heap.size,0,none⟩ (w.alloc<|.cells v.cells t):=by
 simp[newVar,newRow]
theorem AD{e:Nat->Option bF}{f:World}{b:Nat}{bx:bF}{c:Nat}:cl (bK γ b<|some (w.heap.size,c)) (cH e b bx) f (.ptr b bx.aP []) .val [.pointer<|some ⟨w.heap.size,0,none⟩] :=
 ⟨⟨_,rfl,rfl⟩,eE (bw _ _) rfl ⟨w.heap.size,c,by simp[bK],rfl⟩⟩
theorem Rk(m:fo P cx){c:TypeId}{g k:Nat}{t:Ty}(h:cW B N γ σ a w)(n:k<N)(o:find cx.T c=some t)
  (p:(σ.aT (g+k) (.data t t.zero) 0 false λe σ=>.ret (σ.put k<|.ptr (g+k) e [])).run=some bb) :
  nZ P B N γ σ a w (some k) (Instr.alloc c true<|.tuple #[]) bb:=by
 obtain⟨e,f,i⟩:=dM p;obtain rfl:=aI i;obtain⟨z,q,j⟩:=(m.T _ _ o).zero w;obtain⟨m1,l⟩:=h.ok.newVar (b:=g+k) (v:=.data t t.zero) (tid:=0) f (cs:=z.cells) c (.inl rfl) (by rw[j];exact ng w γ.I t);refine⟨.pointer<|some ⟨w.heap.size,0,none⟩,_,_,?_,h.step l m1 n AD,l⟩;simp only[Instr.alloc,Sem.run_bind,q,Result.andThen_ok,rn,Sem.run_pure]
theorem G3(n:fo P cx){c:TypeId}{i k:Nat}(h:cW B N γ σ a w)(o:k<N)(p:cP cx.rh c=true)
  (q:(σ.aT (i+k) .undef 0 false λf σ=>.ret (σ.put k<|.ptr (i+k) f [])).run=some bb) :
  nZ P B N γ σ a w (some k) (Instr.alloc c true<|.tuple #[]) bb:=by
 obtain⟨f,g,j⟩:=dM q;obtain rfl:=aI j;obtain⟨z,l,e⟩:=(n.rh _ p).2.2;have l:=l w;obtain⟨m1,m⟩:=h.ok.newVar (b:=i+k) (v:=.undef) (tid:=0) g (cs:=z.cells) c (.inl rfl) ⟨z,by cases z<;>first|rfl|(simp[Value.oneCell'] at e),e⟩;refine⟨.pointer<|some ⟨w.heap.size,0,none⟩,_,_,?_,h.step m m1 o AD,m⟩;simp only[Instr.alloc,Sem.run_bind,l,Result.andThen_ok,rn,Sem.run_pure]
theorem Rl{b A:Nat}:∀{D:List na} {j:Nat} {σ:St} {γ:Gh} {r:aO×St},bB B γ σ.mem w->(mkObj b A D j σ).run=some r ->
  ∃c,bB B c r.2.mem w/\Ext B γ σ.mem w c r.2.mem w/\r.2.slots=σ.slots /\
   ∀bQ dL w',Ext B c r.2.mem w bQ dL w'->(∃bx l n,dL b=some bx/\A<=bx.aP/\bQ.loc b=some (l,n))->cl bQ dL w' r.1 .cells (IQ D):=by
 intro D;induction D with
 | nil=>intro j σ γ r h z;obtain rfl:=aI z;exact⟨γ,h,Ext.refl _ _ _ _,rfl,λ_ _ _ _ _=>rfl⟩
 | cons f r E =>
   intro j σ γ q h z;cases f with
   | zl t =>
     obtain⟨y,o,p⟩:=bind_some z;obtain rfl:=aI p;obtain⟨c,s,g,u,x⟩:=E h o;exact⟨c,s,g,u,λbQ dL w' i k=>⟨_,_,rfl,ng _ _ t,x bQ dL w' i k⟩⟩
   | one =>
     obtain⟨y,o,p⟩:=bind_some z;obtain rfl:=aI p;obtain⟨c,s,g,u,x⟩:=E h o;exact⟨c,s,g,u,λbQ dL w' i k=>⟨[.pointer none],_,rfl,rfl,x bQ dL w' i k⟩⟩
   | self =>
     obtain⟨y,o,p⟩:=bind_some z;obtain rfl:=aI p;obtain⟨c,s,g,u,x⟩:=E h o;refine⟨c,s,g,u,λbQ dL w' i k=>⟨[.pointer none],_,rfl,?_,x bQ dL w' i k⟩⟩;obtain⟨bx,l,n,J,K,L⟩:=k;exact⟨⟨_,rfl,rfl⟩,bx,J,K,λ_=>⟨l,n,L,.inl rfl⟩⟩
   | buf e F =>
     obtain⟨M,G⟩:=aC z;have H:0<e.size:=by simpa using M
     obtain⟨v,C,I⟩:=dM G;obtain⟨y,o,p⟩:=bind_some I;obtain rfl:=aI p;obtain⟨m1,O⟩:=h.IX (b:=b*1000+999-j) (e:=e) (tid:=F) C H;obtain⟨c,s,g,u,x⟩:=E m1 o;refine⟨c,s,O.trans g,u,λbQ dL w' i k=>⟨[.slice none 0 0],_,rfl,?_,x bQ dL w' i k⟩⟩;refine cl.ext (g.trans i) (v:=.whole (b*1000+999-j) v) (m:=.cells) ?_;exact⟨⟨_,rfl,rfl⟩,eE (bw _ _) rfl ⟨e,0,rfl,rfl,.inl ⟨by simp[bK],rfl⟩⟩⟩
theorem G4(u:fo P cx){b:TypeId}{f k:Nat}{s:List na}(h:cW B N γ σ a w)(v:k<N)(x:find cx.sZ b=some s)
  (y:((mkObj (f+k) (HN σ<|f+k) s 0 σ).bind λr=>r.2.aT (f+k) r.1 b false λaP σ=>.ret (σ.put k<|.ptr (f+k) aP [])).run=some bb) :
  nZ P B N γ σ a w (some k) (Instr.alloc b true<|.tuple #[]) bb:=by
 obtain⟨r,A,C⟩:=bind_some y;obtain⟨g,i,j,D,E⟩:=Rl h.ok A;obtain⟨aP,c,l⟩:=dM C;obtain rfl:=aI l;obtain⟨z,F,m⟩:=Xr (u.sZ _ _ x) w;have n:HN σ (f+k)<=aP:=by
  unfold HN;split
  .rename_i bx o;obtain⟨p,G,I,_⟩:=j.boxes _ bx o;have:=c p G;omega
  .exact nY _
 let bx:bF:={ val:=r.1,tid:=b,buf:=false,ro:=false,lk:=false,aP }
 have t:uD B w (w.alloc<|.cells z.cells b):=(uD.refl _ _).alloc i.base _;have hx:=tI (L:=some (w.heap.size,0)) i (bx:=bx) c t (cK w _);have q:cE (bK g (f+k)<|some (w.heap.size,0)) (cH r.2.mem (f+k) bx) (w.alloc<|.cells z.cells b) (f+k) bx :=
  ⟨w.heap.size,0,z.cells,b,(0,0),by simp[bK],heap_alloc_new w _,sw _,.inr rfl,by
   rw[m];exact E _ _ _ hx ⟨bx,w.heap.size,0,bw _ _,n,by simp[bK]⟩⟩
 have m1:=i.add c t (cK w _) (λH k e=>by obtain⟨rfl,rfl⟩:=br (aI e);exact⟨cg _,by simp⟩) q;refine⟨.pointer<|some ⟨w.heap.size,0,none⟩,_,_,?_,?_,j.trans hx⟩
 .simp only[Instr.alloc,Sem.run_bind,F,Result.andThen_ok,rn,Sem.run_pure]
 .have:=h.step (j.trans hx) m1 v (AD (bx:=bx));rw[<-D] at this;exact this
theorem Gb{b j:Nat}{v:aO}{e:St}{r:aO×St}(c:(nc b [] j v e).run=some r):r=(v,e):=by
 cases v with
 | data t x=>cases t<;>first|(obtain rfl:=aI c;rfl)|cases c
 | _=>cases c
theorem De{b j:Nat}{f:na}{q:List na}{v:aO}{g:St}{r:aO×St}(c:(nc b (f::q) j v g).run=some r) :
  (∃x u y,v=.mix x u/\(nc b q (j+1) u g).run=some y/\r=(.mix x y.1,y.2)) \/
  (∃e h u,v=.mix .oa u/\0<e.size/\(g.aT (b*1000+999-j) (.data (.slice e) []) h true λi g=>(nc b q (j+1) u g).bind λx=>.ret (.mix (.whole (b*1000+999-j) i) x.1,x.2)).run=some r):=by
 cases v with
 | mix a u =>
   cases f with
   | zl t =>
     cases a with
     | data n z =>
       obtain⟨y,k,l⟩:=bind_some (show((nc b q (j+1) u g).bind λx=>.ret (.mix (.data n z) x.1,x.2)).run=some r from c);exact .inl ⟨_,u,y,rfl,k,(aI l).symm⟩
     | _=>cases c
   | one =>
     cases a with
     | rf =>
       obtain⟨y,k,l⟩:=bind_some (show((nc b q (j+1) u g).bind λx=>.ret (.mix .rf x.1,x.2)).run=some r from c);exact .inl ⟨_,u,y,rfl,k,(aI l).symm⟩
     | _=>cases c
   | buf e h =>
     cases a with
     | oa =>
       obtain⟨o,m⟩:=aC c;exact .inr ⟨e,h,u,rfl,by simpa using o,m⟩
     | _=>cases c
   | self=>cases a<;>cases c
 | _=>cases f<;>cases c
theorem G5(r:fo P cx){c:TypeId}{f k:Nat}{A:List Nat}{t:Ty}(h:cW B N γ σ a w)(s:k<N)(u:find cx.T c=some t)
  (m:(uf f A k t σ).run=some bb):nZ P B N γ σ a w (some k) (Instr.alloc c true<|.tuple #[]) bb:=by
 unfold uf at m;split at m
 .rename_i e _;obtain⟨C,n⟩:=aC m;have o:0<e.size:=by simpa using C
  obtain⟨v,j,p⟩:=dM n;obtain⟨m1,x⟩:=h.ok.IX (b:=(f+k)*1000+999) (e:=e) (tid:=0) j o;obtain⟨D,g,q⟩:=dM p;obtain rfl:=aI q;obtain⟨i,z,E,J,F,G⟩:=(r.T _ _ u).info;have H:(zeroValue c).run P w=.ok z w:=by simp[zeroValue,typeInfo,E,F]
  have l:cl (bK γ ((f+k)*1000+999) none) (cH σ.mem ((f+k)*1000+999) { val:=.data (.slice e) ([]:List e.den),tid:=0,buf:=true,ro:=false,lk:=false,aP:=v }) w (.whole ((f+k)*1000+999) v) .cells z.cells.toList:=by
   rw[G];exact⟨⟨_,rfl,rfl⟩,eE (bw _ _) rfl ⟨e,0,rfl,rfl,.inl ⟨by simp[bK],rfl⟩⟩⟩
  obtain⟨I,y⟩:=m1.newVar (b:=f+k) (v:=.whole ((f+k)*1000+999) v) (tid:=0) g (cs:=z.cells) c (.inl rfl) l;refine⟨.pointer<|some ⟨w.heap.size,0,none⟩,_,_,?_,h.step (x.trans y) I s AD,x.trans y⟩;simp only[Instr.alloc,Sem.run_bind,H,Result.andThen_ok,rn,Sem.run_pure]
 .exact Rk r h s u m
theorem Lr{b:Nat}:∀{n:List na} {j:Nat} {v:aO} {σ:St} {γ:Gh} {r:aO×St} {cs:List Value},bB B γ σ.mem w->cl γ σ.mem w v .cells cs->(nc b n j v σ).run=some r ->
  ∃c,bB B c r.2.mem w/\Ext B γ σ.mem w c r.2.mem w/\r.2.slots=σ.slots/\cl c r.2.mem w r.1 .cells cs:=by
 intro n;induction n with
 | nil =>
   intro j v σ γ r cs h l o;obtain rfl:=Gb o;exact⟨γ,h,Ext.refl _ _ _ _,rfl,l⟩
 | cons f q I =>
   intro j v σ γ r cs h l o;rcases De o with ⟨x,u,y,rfl,p,rfl⟩|⟨e,s,u,rfl,K,t⟩
   .obtain⟨z,A,rfl,C,D⟩:=l;obtain⟨c,E,g,F,G⟩:=I h D p;exact⟨c,E,g,F,z,A,rfl,C.ext g,G⟩
   .obtain⟨k,i,H⟩:=dM t;obtain⟨y,p,L⟩:=bind_some H;obtain rfl:=aI L;obtain⟨z,A,rfl,C,D⟩:=l;obtain⟨m1,J⟩:=h.IX (b:=b*1000+999-j) (e:=e) (tid:=s) i K;obtain⟨c,E,g,F,G⟩:=I m1 (D.ext J) p;obtain rfl:z=[.slice none 0 0]:=C;refine⟨c,E,J.trans g,F,[.slice none 0 0],A,rfl,?_,G⟩;refine cl.ext g (v:=.whole (b*1000+999-j) k) (m:=.cells) ?_;exact⟨⟨_,rfl,rfl⟩,eE (bw _ _) rfl ⟨e,0,rfl,rfl,.inl ⟨by simp[bK],rfl⟩⟩⟩
theorem Ls{c:TypeId}{i k:Nat}{x:Operand}{n:List na}(h:cW B N γ σ a w)(o:k<N)(p:cD σ x≠.undef)(q:∀u,cD σ x≠.yP u)
  (s:((nc (i+k) n 0 (cD σ x) σ).bind λr=>r.2.aT (i+k) r.1 c false λf σ=>.ret (σ.put k<|.ptr (i+k) f [])).run=some bb) :
  nZ P B N γ σ a w (some k) (Instr.box c<|a.eval x) bb:=by
 obtain⟨r,t,y⟩:=bind_some s;obtain⟨z,A,l,C,D⟩:=Lr h.ok ((h.cD x).kD q λe=>absurd e p) t;obtain⟨f,g,j⟩:=dM y;obtain rfl:=aI j;obtain⟨m1,m⟩:=A.newVar (b:=i+k) (v:=r.1) (tid:=c) g (cs:=(a.eval x).cells) c (.inr rfl) D;refine⟨.pointer<|some ⟨w.heap.size,0,none⟩,_,_,?_,?_,l.trans m⟩
 .simp only[Instr.box,Sem.run_bind,rn,Result.andThen_ok,Sem.run_pure]
 .have:=h.step (l.trans m) m1 o AD;rw[<-C] at this;exact this
theorem Xx{c:TypeId}{i k:Nat}{x:Operand}(h:cW B N γ σ a w)(m:k<N)(n:cD σ x≠.undef)(o:∀u,cD σ x≠.yP u)
  (p:(σ.aT (i+k) (cD σ x) 0 false λf σ=>.ret (σ.put k<|.ptr (i+k) f [])).run=some bb) :
  nZ P B N γ σ a w (some k) (Instr.box c<|a.eval x) bb:=by
 obtain⟨f,g,j⟩:=dM p;obtain rfl:=aI j;obtain⟨m1,l⟩:=h.ok.newVar (b:=i+k) (v:=cD σ x) (tid:=0) g (cs:=(a.eval x).cells) c (.inl rfl) ((h.cD x).kD o λe=>absurd e n);refine⟨.pointer<|some ⟨w.heap.size,0,none⟩,_,_,?_,h.step l m1 m AD,l⟩;simp only[Instr.box,Sem.run_bind,rn,Result.andThen_ok,Sem.run_pure]
theorem acA{b:Nat->Option bF}:∀{u v:aO} {k:Nat} {vs:List Value},cl γ b w u .many vs->nth u k=some v->∃x,vs[k]?=some x/\cl γ b w v .val [x]:=by
 intro u;induction u with
 | mix p q g f =>
   intro v k vs h e;obtain⟨c,r,rfl,i,j⟩:=h;cases k with
   | zero=>obtain rfl:=aI e;exact⟨c,rfl,i⟩
   | succ k=>obtain⟨x,l,m⟩:=f j e;exact⟨x,by simpa using l,m⟩
 | _=>intro v k vs h e;exact absurd e (by intro k;cases k)
theorem Lt{x:Operand}{k:Nat}{e v:aO}(h:cW B N γ σ a w)(f:∀k,d=some k->k<N)(g:cD σ x=.yP e)(i:nth e k=some v) :
  nZ P B N γ σ a w d (Instr.extract (a.eval x) k) (σ.ba d v):=by
 have hv:=h.cD x;rw[g] at hv;obtain⟨b,c,j⟩:=hv;obtain c:a.eval x=_:=by simpa using c
 obtain⟨y,l,m⟩:=acA j i;refine bN h f (x:=y) ?_ m;rw[c];have:b[k]?=some y:=by simpa using l
 simp only[Instr.extract,this,Sem.run_pure]
theorem aak:∀{ops:List Operand} {cs:List (Nat×Nat)},cW B N γ σ a w->EC (ops.map<|cD σ)=some cs->cs.length=ops.length /\
  ∀(i:Nat) b aP,cs[i]?=some (b,aP)->mx σ.mem b aP λ_=>∃f g,γ.loc b=some (f,g)/\(ops.map a.eval)[i]?=some (.pointer<|some ⟨f,0,none⟩):=by
 intro ops;induction ops with
 | nil=>intro cs h c;obtain rfl:=aI c;exact⟨rfl,λi b aP k=>by cases k⟩
 | cons o r q =>
   intro cs h c;have n:=h.cD o;simp only[sX] at c;unfold EC at c;split at c
   .rename_i j;cases j
   .rename_i E p F j;injection j with s t
    subst t;rw[s] at n;cases l:EC (r.map<|cD σ) with
    | none=>rw[l] at c;cases c
    | some u =>
      rw[l] at c;obtain rfl:=aI c;obtain⟨v,x⟩:=q h l;refine⟨by simp[v],λi b aP k=>?_⟩;cases i with
      | zero =>
        obtain⟨rfl,rfl⟩:=br (aI k);obtain⟨y,z,A,C⟩:=n.2;refine⟨y,z,A,λe=>?_⟩;obtain⟨f,g,D,m⟩:=C e;obtain m:a.eval o=_:=by simpa using m
        exact⟨f,g,D,by simp[m,cG]⟩
      | succ i =>
        have:=x i b aP (by simpa using k);simpa using this
   .cases c
theorem I5{f:Nat}{c:Array Operand}{n:List (Nat×Nat)}(h:cW B N γ σ a w)(o:∀k,d=some k->k<N)(g:EC (c.toList.map<|cD σ)=some n) :
  nZ P B N γ σ a w d (Instr.makeFunc (.func f) #[] (c.map a.eval)) (σ.ba d<|.fn f n):=by
 obtain⟨p,q⟩:=aak h g;refine bN h o (x:=.func (.func f) #[] (c.map a.eval)) rfl ?_;refine⟨c.map a.eval,rfl,by rw[p];simp,λi b j r=>?_⟩;obtain⟨s,t,u,v⟩:=q i b j r;refine⟨s,t,u,λe=>?_⟩;obtain⟨l,m,y,z⟩:=v e;exact⟨l,m,y,by simpa using z⟩
end
end Go.Ge
namespace Go.Ge
open RowKit
def T5(e:Gh)(c:Nat):Gh:={ e with I:=λb o=>e.I b o\/b=c }
theorem bB.aeq{B:qK}{j:Gh}{e:Nat->Option bF}{w:World}(h:bB B j e w)(n:Array Value)(p:TypeId) :
  bB B (T5 j w.heap.size) e (w.alloc<|.cells n p)/\Ext B j e w (T5 j w.heap.size) e (w.alloc<|.cells n p):=by
 have hx:Ext B j e w (T5 j w.heap.size) e (w.alloc<|.cells n p) :=
  { below:=(uD.refl _ _).alloc h.base _
    I:=λ_ _ x=>.inl x
    pZ:=λc o x=>by
     rcases x with x|x
     .exact .inl x
     .exact .inr (.inl<|by rw[x];exact h.base)
    cells:=λc o x=>di (cK w _ c<|h.tu c o x)
    boxes:=λb m hb=>⟨m,hb,cg _,λ_=>⟨rfl,rfl,rfl⟩⟩ }
 refine⟨?_,hx⟩;have g:(w.alloc<|.cells n p).heap.size=w.heap.size+1:=by simp
 exact
  { cU:=h.C5 hx
    base:=by rw[g];exact Nat.le_succ_of_le h.base
    boxes:=λb m hb=>(h.boxes b m hb).keep hx rfl λc k l=>cK w _ c (h.fresh b c k (by rw[hb];simp) l).2
    inj:=h.inj
    fresh:=λb c k hb l=>by have:=h.fresh b c k hb l;exact⟨this.1,by rw[g];omega⟩
    tu:=λc i f=>by
     rw[g];rcases f with f|f
     .have:=h.tu c i f;omega
     .omega
    sep:=λb m c k i hb l f=>by
     rcases f with f|f
     .exact h.sep b m c k i hb l f
     .have:=(h.fresh b c k (by rw[hb];simp) l).2;omega }
theorem I6(b:Nat):∀(l:List Value) (k:Nat) (cells:Array Value),b+k+l.length<=cells.size ->
  (l.zipIdx k).foldl (λcs (x:Value×Nat)=>cs.setIfInBounds (b+x.2) x.1) cells=(aU cells.toList (b+k) l).toArray
 | [],k,cells,h=>by simp[aU]
 | v::r,k,cells,h=>by
   simp only[List.zipIdx_cons,QQ];rw[I6 b r (k+1) _<|by simp at h⊢;omega];have e:=list_seg_step cells.toList (b+k) v r (by simp at h⊢;omega)
   congr 1
   simpa [aU,adQ,xP] using e
theorem AE{e:Nat->Option (Nat×Nat)}{b:Array Value}{i f c:Nat}{v:Value}{g:List (Nat×Value)}(k:e i=some (f,c))(j:v.cells.toList.length=c)
  (l:f+c<=b.size):Instr.fill e b ((i,v)::g)=Instr.fill e (aU b.toList f v.cells.toList).toArray g:=by
 have h:v.cells.size=c:=by simpa using j
 have m:(v.cells.size≠c||f+v.cells.size > b.size)=false:=by
  simp only[vl,GS];constructor
  .simp[h]
  .omega
 simp only[Instr.fill,k];rw[m];simp only[Iu,pR]
 congr 1
 rw[<-Array.foldl_toList,Array.toList_zipIdx];have:=I6 f v.cells.toList 0 b (by rw[j];omega);simpa using this
theorem T6{w:World}{I:Nat->Nat->Prop}{u:Ty}{y:u.den}{f:List Value}(p:bI w I u y f):∀{t:Ty} {x g:t.den} {cs:List Value} {k o:Nat},
  bI w I t x cs->jr t k=some o->ID t x k u y=some g->bI w I t g (aU cs o f)/\o+f.length<=cs.length:=by
 intro t;induction t with
 | pair a b A i =>
   intro x g cs k o h c e;obtain⟨j,r,rfl,l,s⟩:=h;cases k with
   | zero =>
     simp only[jr,sq] at c;subst c;simp only[ID] at e;split at e
     .rename_i G C;obtain⟨q,D⟩:=Ty.kz C;subst q;subst D;obtain rfl:=aI e;have m:f.length=j.length:=by rw[p.length,l.length]
      refine⟨⟨f,r,?_,p,s⟩,by rw[fQ];omega⟩;simp only[aU,MY,sW,sr];rw[m,Bf]
     .cases e
   | succ k =>
     simp only[jr] at c;cases n:jr b k with
     | none=>rw[n] at c;cases c
     | some v =>
       rw[n] at c;simp only[Ex,sq] at c;simp only[ID] at e;split at e
       .rename_i z E;obtain rfl:=aI e;obtain⟨F,H⟩:=i s n E;have m:=l.length;refine⟨⟨j,aU r v f,?_,l,F⟩,by rw[fQ];omega⟩;subst c;rw[<-m];simp only[aU];first
         | (rw[VX,kR,kR,xP,<-vm,Bf];simp[kR];done)
         | (rw[Wa v j.length,VX,kR,kR,xP,<-vm,Bf];simp[kR])
       .cases e
 | _=>intro x g cs k o h c;cases k<;>simp[jr] at c
theorem G6:∀{t:Ty} {k:Nat} {u:Ty},uv t k=some u->∃o,jr t k=some o:=by
 intro t;induction t with
 | pair a b e c =>
   intro k u h;cases k with
   | zero=>exact⟨0,rfl⟩
   | succ k =>
     obtain⟨o,f⟩:=c (show uv b k=some u from h);simp only[jr,f];exact⟨_,rfl⟩
 | _=>intro k u h;cases k<;>cases h
section
variable {P:Program} {B:qK} {N:Nat} {γ:Gh} {σ bb:St} {a:Act} {w:World} {d:Option Nat} {cx:Ctx}
theorem EL{place:Nat->Option (Nat×Nat)}{t:Ty}(m:∀k u o,uv t k=some u->jr t k=some o->place k=some (o,u.size)) :
  ∀{parts:List (Nat×Operand)} {x l:t.den} {cells:Array Value} {σ bb:St} {γ:Gh},cW B N γ σ a w->bI w γ.I t x cells.toList->gf σ t x parts=some (l,bb) ->
   ∃b bQ,Instr.fill place cells (parts.map λp=>(p.1,a.eval p.2))=some b/\cW B N bQ bb a w/\Ext B γ σ.mem w bQ bb.mem w/\bI w bQ.I t l b.toList:=by
 intro parts;induction parts with
 | nil =>
   intro x l cells σ bb γ h n c;obtain⟨rfl,rfl⟩:=br (aI c);exact⟨cells,γ,rfl,h,Ext.refl _ _ _ _,n⟩
 | cons p r E =>
   obtain⟨k,o⟩:=p;intro x l cells σ bb γ h n c;simp only[gf] at c;split at c
   .rename_i u A;split at c
    .rename_i y bG F;split at c
     .rename_i R q;obtain⟨G,H,s,C,v,J⟩:=mA h (h.cD o) F;obtain f:a.eval o=_:=by simpa using J
      have g:(a.eval o).cells.toList=C:=by rw[f];exact rM v
      obtain⟨i,e⟩:=G6 A;obtain⟨K,D⟩:=T6 v (bI.mono s.I s.cells n) e q;have j:=v.length;obtain⟨b,z,L,M,O,Q⟩:=E (cells:=(aU cells.toList i C).toArray) H (by simpa using K) c;refine⟨b,z,?_,M,s.trans O,Q⟩;simp only[sX];rw[AE (m k u i A e) (by rw[g];exact j)<|by rw[j] at D;simpa using D,g];exact L
     .cases c
    .cases c
   .cases c
theorem yT{n:Nat}{e:Ty}{place:Nat->Option (Nat×Nat)}(u:∀k,place k=some (k*e.size,e.size)) :
  ∀{parts:List (Nat×Operand)} {l s:List e.den} {cells:Array Value} {σ bb:St} {γ:Gh},cW B N γ σ a w->bI w γ.I (.arr n e) l cells.toList->fR σ e l parts=some (s,bb) ->
   ∃b bQ,Instr.fill place cells (parts.map λp=>(p.1,a.eval p.2))=some b/\cW B N bQ bb a w/\Ext B γ σ.mem w bQ bb.mem w/\bI w bQ.I (.arr n e) s b.toList:=by
 intro parts;induction parts with
 | nil =>
   intro l s cells σ bb γ h v c;obtain⟨rfl,rfl⟩:=br (aI c);exact⟨cells,γ,rfl,h,Ext.refl _ _ _ _,v⟩
 | cons p r J =>
   obtain⟨k,o⟩:=p;intro l s cells σ bb γ h v c;simp only[fR] at c;split at c
   .rename_i y bG K;cases f:Nat.blt k l.length with
    | false=>rw[f] at c;cases c
    | true =>
      rw[f] at c;simp only[eC] at c;have F:k<l.length:=by simpa using f
      obtain⟨x,L,z,t,A,M⟩:=mA h (h.cD o) K;obtain j:a.eval o=_:=by simpa using M
      have m:(a.eval o).cells.toList=t:=by rw[j];exact rM A
      obtain⟨G,C,O⟩:=bI.mono z.I z.cells v;have D:l.length=n:=G;have g:=A.length;have H:(k+1)*e.size<=n*e.size:=fO _ (by omega);rw[zm] at H;have i:k*e.size+t.length<=cells.toList.length:=by rw[g,C];exact H
      have q:bI w x.I (.arr n e) (l.set k y) (aU cells.toList (k*e.size) t) :=
       ⟨(@List.length_set _ l _ _).trans G,by rw[bM i];exact C,IW D (by rw[C];exact cg _) O (by omega) A⟩
      obtain⟨b,E,Q,R,S,T⟩:=J (cells:=(aU cells.toList (k*e.size) t).toArray) L (by simpa using q) c;refine⟨b,E,?_,R,z.trans S,T⟩;simp only[sX];rw[AE (u k) (by rw[m];exact g)<|by rw[g] at i;simpa using i,m];exact Q
   .cases c
theorem pP.places{t:Ty}:∀{off:Nat} {e:List Field},pP P t off e->∃c:List (Nat×Nat),e.mapM (λf=>(P.info? f.type).map λi=>(f.offset,i.size))=some c /\
  ∀k u o,uv t k=some u->jr t k=some o->c[k]?=some (off+o,u.size):=by
 induction t with
 | pair a b n l =>
   intro off e h;obtain⟨f,r,rfl,p,E,q,F,s⟩:=h.cons;obtain⟨v,x,y⟩:=l s;obtain⟨i,z,A,C,_⟩:=q.info;refine⟨(f.offset,i.size)::v,by simp[A,x],λk u o j g=>?_⟩;cases k with
   | zero =>
     simp only[uv,jr,sq] at j g;subst j g;simp[p,C]
   | succ k =>
     simp only[uv,jr] at j g;cases m:jr b k with
     | none=>rw[m] at g;cases g
     | some D =>
       rw[m] at g;simp only[Ex,sq] at g;have:=y k u D j m;rw[Qz,this]
       congr 2;omega
 | unit =>
   intro off e h;cases e with
   | nil=>exact⟨[],rfl,λk u o j=>by cases k<;>cases j⟩
   | cons f r=>simp[pP,eV] at h
 | _=>intro off e h;cases e<;>simp[pP,eV] at h
theorem Gc{g:Nat->Option bF}:∀{c:List na} {v:aO},rL c=some v->cl γ g w v .cells (IQ c):=by
 intro c;induction c with
 | nil=>intro v h;obtain rfl:=aI h;rfl
 | cons f r j =>
   intro v h;cases f with
   | zl t =>
     simp only[rL] at h;split at h
     .rename_i u b;obtain rfl:=aI h;exact⟨_,_,rfl,ng _ _ t,j b⟩
     .cases h
   | buf e i =>
     simp only[rL] at h;split at h
     .rename_i u b;obtain rfl:=aI h;exact⟨[.slice none 0 0],_,rfl,rfl,j b⟩
     .cases h
   | one =>
     simp only[rL] at h;split at h
     .rename_i u b;obtain rfl:=aI h;exact⟨[.pointer none],_,rfl,rfl,j b⟩
     .cases h
   | self=>cases h
theorem zz{place:Nat->Option (Nat×Nat)}{q:List na}(s:∀k o f,xT q k=some o->q[k]?=some f->place k=some (o,f.size))(h:cW B N γ σ a w) :
  ∀{parts:List (Nat×Operand)} {v m:aO} {cells:Array Value},cl γ σ.mem w v .cells cells.toList->mw σ q v parts=some m ->
   ∃b,Instr.fill place cells (parts.map λp=>(p.1,a.eval p.2))=some b/\cl γ σ.mem w m .cells b.toList:=by
 intro parts;induction parts with
 | nil=>intro v m cells n c;obtain rfl:=aI c;exact⟨cells,rfl,n⟩
 | cons p r G =>
   obtain⟨k,x⟩:=p;intro v m cells n c;simp only[mw] at c;split at c
   case h_2=>cases c
   rename_i o t R H f E J A;cases g:Nat.beq o H&&Nat.beq t.size f.size with
   | false=>rw[g] at c;cases c
   | true =>
     rw[g] at c;simp only[eC] at c;simp only[dv] at g;obtain rfl:=eT g.1;have i:=eT g.2;split at c
     case h_2=>cases c
     rename_i y j;split at c
     case h_2=>cases c
     rename_i S C;have hx:cl γ σ.mem w (cD σ x) .cells (a.eval x).cells.toList:=(h.cD x).kD (λu e=>by rw[e] at j;cases j) (λe=>by rw[e] at j;cases j);have l:bI w γ.I t y (a.eval x).cells.toList:=HT j hx;obtain⟨K,_⟩:=EK n E;have D:o+t.size<=cells.toList.length:=K;have F:(a.eval x).cells.toList.length=t.size:=l.length;have L:=IV (f:=λ_=>.ret (.data t y)) n E (λz M=>by obtain rfl:=aI M;exact l) C F;obtain⟨b,O,Q⟩:=G (cells:=(aU cells.toList o (a.eval x).cells.toList).toArray) (by simpa using L) c;refine⟨b,?_,Q⟩;simp only[sX];rw[AE (s k o f J A) (by rw[F];exact i)<|by rw[<-i];simpa using D];exact O
theorem G7(r:fo P cx){t:TypeId}{g:List na}{j p q:aO}{b:Array (Nat×Operand)}(h:cW B N γ σ a w)(s:∀k,d=some k->k<N)(u:find cx.sZ t=some g)
  (l:rL g=some j) (y:mw σ g j b.toList=some (.mix p q)) :
  nZ P B N γ σ a w d (Instr.build t<|b.map λ(i,x)=>(i,a.eval x)) (σ.ba d<|.mix p q):=by
 have n:=r.sZ _ _ u;simp only[IU,dv] at n;obtain⟨m,A⟩:=n;obtain⟨i,z,C,T,D,E⟩:=jt A;split at m
 case h_2=>cases m
 rename_i U F;obtain⟨G,H,I⟩:=C7 m;obtain⟨c,J,K,L,M,O,Q⟩:=zz (place:=λk=>G.toArray[k]?) (λk o f R S=>by have:=I k o f R S;simpa using this) h
  (v:=j) (cells:=z.cells) (by rw[E];exact Gc l) y
 have e:(Instr.build t<|b.map λ(i,x)=>(i,a.eval x)).run P w=.ok (.agg c) w:=by
  refine run_build w t _ _ ?_;unfold Program.built;simp only[C,F,D,H];simpa using J
 exact bN h s e ⟨K,L,by rw[<-M],O,Q⟩
theorem EM(q:fo P cx){t:TypeId}{j:List na}{l:aO}{u:Ty.unit.den}{c:Array (Nat×Operand)}(h:cW B N γ σ a w)(r:∀k,d=some k->k<N)(s:find cx.sZ t=some j)
  (m:rL j=some l) (y:mw σ j l c.toList=some (.data .unit u)) :
  nZ P B N γ σ a w d (Instr.build t<|c.map λ(i,x)=>(i,a.eval x)) (σ.ba d<|.data .unit ()):=by
 have p:=q.sZ _ _ s;simp only[IU,dv] at p;obtain⟨n,A⟩:=p;obtain⟨i,z,C,O,D,E⟩:=jt A;split at n
 case h_2=>cases n
 rename_i Q F;obtain⟨G,H,I⟩:=C7 n;obtain⟨b,J,K⟩:=zz (place:=λk=>G.toArray[k]?) (λk o f L M=>by have:=I k o f L M;simpa using this) h
  (v:=l) (cells:=z.cells) (by rw[E];exact Gc m) y
 have g:(Instr.build t<|c.map λ(i,x)=>(i,a.eval x)).run P w=.ok (.agg b) w:=by
  refine run_build w t _ _ ?_;unfold Program.built;simp only[C,F,D,H];simpa using J
 have e:b.toList=[]:=K;exact bN h r g ⟨[],rfl,by rw[show b=#[] from QZ e];rfl⟩
theorem Cg(g:fo P cx){t:TypeId}{u v:Ty}{b:Array (Nat×Operand)}{x:(Ty.pair u v).den}(h:cW B N γ σ a w)(j:∀k,d=some k->k<N)(l:find cx.T t=some (.pair u v))
  (m:gf σ (.pair u v) (Ty.pair u v).zero b.toList=some (x,bb)) :
  nZ P B N γ σ a w d (Instr.build t<|b.map λ(i,x)=>(i,a.eval x)) (bb.ba d<|.data (.pair u v) x):=by
 have f:=g.T _ _ l;obtain⟨K,n,p,_⟩:=f.pair;obtain⟨q,r,s⟩:=p.places;obtain⟨i,z,y,L,A,C⟩:=f.info;obtain⟨c,bQ,D,E,F,G⟩:=EL (place:=λk=>q.toArray[k]?) (λk u o H J=>by have:=s k u o H J;simpa using this) h
  (x:=(Ty.pair u v).zero) (cells:=z.cells) (by rw[C];exact ng w γ.I _) m
 have e:(Instr.build t<|b.map λ(i,x)=>(i,a.eval x)).run P w=.ok (.agg c) w:=by
  refine run_build w t _ _ ?_;unfold Program.built;simp only[y,n,A,r];simpa using D
 exact⟨_,_,bQ,e,E.uE j ⟨_,G,rfl⟩,by cases d<;>exact F⟩
theorem Df(m:fo P cx){t:TypeId}{n:Nat}{e:Ty}{b:Array (Nat×Operand)}{l:List e.den}(h:cW B N γ σ a w)(o:∀k,d=some k->k<N)(p:find cx.T t=some (.arr n e))
  (q:fR σ e (List.replicate n e.zero) b.toList=some (l,bb)) :
  nZ P B N γ σ a w d (Instr.build t<|b.map λ(i,x)=>(i,a.eval x)) (bb.ba d<|.data (.arr n e) l):=by
 have g:=m.T _ _ p;obtain⟨r,s,u,J⟩:=g.arr;obtain⟨j,K,v,y,L,M⟩:=u.info;obtain⟨i,z,A,O,C,D⟩:=g.info;obtain⟨c,bQ,E,F,G,H⟩:=yT (n:=n) (place:=λk=>some (k*j.size,j.size)) (λk=>by rw[y]) h
  (l:=List.replicate n e.zero) (cells:=z.cells) (by rw[D];exact ng w γ.I (.arr n e)) q
 have f:(Instr.build t<|b.map λ(i,x)=>(i,a.eval x)).run P w=.ok (.agg c) w:=by
  refine run_build w t _ _ ?_;unfold Program.built;simp only[A,s,C,v];simpa using E
 exact⟨_,_,bQ,f,F.uE o ⟨_,H,rfl⟩,by cases d<;>exact G⟩
theorem uG{e:Ty}{z:Value}(h:z.cells.toList=eM e)(i:0<e.size)(n:Nat):(madeCells z.cells<|n*e.size).toList=eM (.arr n e):=by
 have c:z.cells.size=e.size:=by rw[<-dO e,<-h];simp
 apply Bq;intro j;have hlen:(eM<|.arr n e).length=n*e.size:=by rw[dO];rfl
 rcases sY j (n*e.size) with f|f
 .have l:(madeCells z.cells<|n*e.size).toList[j]?=some (z.cells[j % z.cells.size]!):=by simp[madeCells,f]
  rw[l];have hdiv:j / e.size<n:=by rw[V1 i];exact f
  have k:=eJ (eM e) n (j / e.size) hdiv;rw[dO] at k;have b:=wT j i;have g:j / e.size*e.size+j % e.size=j:=by rw[QX];exact QP j e.size
  have m:(eM<|.arr n e)[j]?=(eM e)[j % e.size]?:=by
   conv=>rhs;rw[<-k]
   rw[fi,aQ b,mn,g];rfl
  rw[m,<-h,c];have o:j % e.size<z.cells.size:=by omega
  simp[o]
 .rw[Om<|by simp[madeCells];omega,Om (by omega)]
theorem OE{w:World}{I:Nat->Nat->Prop}{e:Ty}{n:Nat}{l:List e.den}{b:Array Value}{t:TypeId}{f:Nat}{q:Nat×Nat}(h:bI w I (.arr n e) l b.toList)(r:w.heap[f]?=some (.cells b t q))
  (s:∀o,I f o) (u:n<=maxLen):bI w I (.slice e) l [.slice (some ⟨f,0,none⟩) n n]:=by
 obtain⟨v,A,y⟩:=h;have g:l.length=n:=v;refine .inr ⟨f,0,n,by rw[<-g],by rw[<-g];exact cg _,u,λi x z=>?_⟩;have k:l[i]?=some x:=z;have hi:i<n:=by have:=(fq.1 k).1;omega
 have p:=y i x k;refine⟨_,p.length,λj c m=>⟨?_,s _⟩,p⟩;rw[cell_of_heap r];rw[fi] at m;split at m
 .rw[mn] at m;rw[sr];simpa using m
 .cases m
theorem EN(G:fo P cx){t:TypeId}{n:Nat}{e:Ty}{c:Array (Nat×Operand)}{l:List e.den}(h:cW B N γ σ a w)(H:∀k,d=some k->k<N)(J:find cx.T t=some (.slice e))
  (y:Nat.ble (n*e.size) 65536=true) (K:fR σ e (List.replicate n e.zero) c.toList=some (l,bb)) :
  nZ P B N γ σ a w d (Instr.buildSlice t n<|c.map λ(i,x)=>(i,a.eval x)) (bb.ba d<|.data (.slice e) l):=by
 have L:=G.T _ _ J;have y:n*e.size<=65536:=GV y;obtain⟨j,z,M,U,A⟩:=L.slice;obtain⟨g,p,C,r,D,O⟩:=M.info;obtain⟨b,bQ,E,F,Q,R⟩:=yT (n:=n) (place:=λk=>some (k*g.size,g.size)) (λk=>by rw[r]) h
  (l:=List.replicate n e.zero) (cells:=madeCells p.cells (n*e.size)) (by rw[uG O A];exact ng w γ.I (.arr n e)) K
 obtain⟨m1,q⟩:=F.ok.aeq b j;have m:(Instr.buildSlice t n<|c.map λ(i,x)=>(i,a.eval x)).run P w=.ok (.slice (some ⟨w.heap.size,0,none⟩) n n) (w.alloc<|.cells b j):=by
  have f:Instr.fill (λi=>some (i*g.size,g.size)) (madeCells p.cells<|n*g.size) (c.map λ(i,x)=>(i,a.eval x)).toList=some b:=by rw[r] at E⊢;simpa using E
  by_cases s:n*g.size=0
  .have u:madeCells p.cells (n*g.size)=#[]:=by rw[s];simp[madeCells]
   rw[u] at f;simp only[QM] at f;simp[Instr.buildSlice,run_underlying z,Go.sizeOf,typeInfo,zeroValue,C,D,s,newRow];have S:(Array.map (λx:Nat=>(default:Value))<|Array.range 0)=#[]:=by simp[Array.range]
   rw[S,f];rfl
  .exact run_buildSlice w t j n _ b g p z C D (by rw[r];omega) s f
 refine⟨_,_,_,m,F.ba q m1 H (v:=.data (.slice e) l) ⟨[.slice (some ⟨w.heap.size,0,none⟩) n n],?_,rfl⟩,by cases d<;>exact Q.trans q⟩;refine OE (bI.mono q.I q.cells R) (heap_alloc_new w _) (λo=>.inr rfl) ?_;have:n*1<=n*e.size:=Nat.mul_le_mul_left _ A;have:(65536:Nat)<=maxLen:=by decide
 omega
theorem OG{b:Type}{l r:List b}{c:b}{j:Nat}(h:l.length=j):(l++([c]++r)).take (j+1)=l++[c]:=by
 subst h;rw[List.take_append,Bd (by omega)];simp
theorem OH{place:Nat->Option (Nat×Nat)}(A:∀k,place k=some (k,1))(h:cW B N γ σ a w) :
  ∀{parts:List (Nat×Operand)} {k:Nat} {v:aO} {cells:Array Value},cells.size=k+parts.length->zq σ k parts=some v ->
   ∃g:List Value,Instr.fill place cells (parts.map λp=>(p.1,a.eval p.2))=some (cells.toList.take k++g).toArray/\cl γ σ.mem w v .cells g:=by
 intro parts;induction parts with
 | nil =>
   intro k v cells z m;obtain rfl:=aI m;refine⟨[],?_,rfl⟩;have:cells.toList.take k=cells.toList:=Bd (by simp only[eB,wS] at z;simp[z]);rw[this];simp[Instr.fill]
 | cons p r G =>
   obtain⟨j,x⟩:=p;intro k v cells z m;simp only[zq] at m;cases C:Nat.beq j k with
   | false=>rw[C] at m;cases m
   | true =>
     rw[C] at m;simp only[eC] at m;obtain rfl:=eT C;simp only[dd] at z;have key:∀(u o:aO) (c:Value),(∀t,u≠.yP t)->u≠.undef->cD σ x=u->zq σ (j+1) r=some o->v=.mix u o->(a.eval x).cells.toList=[c] ->
       ∃g:List Value,Instr.fill place cells (((j,x)::r).map λp=>(p.1,a.eval p.2))=some (cells.toList.take j++g).toArray/\cl γ σ.mem w v .cells g:=by
      intro u o c H I n i D l;have hx:=h.cD x;rw[n] at hx;have s:=hx.kD H (λe=>absurd e I);have hlen:(aU cells.toList j [c]).length=cells.toList.length:=bM (by simp;omega);obtain⟨g,J,K⟩:=G (k:=j+1) (cells:=(aU cells.toList j [c]).toArray) (by simp only[GW,hlen,Ip];omega) i;have L:(aU cells.toList j [c]).take (j+1)=cells.toList.take j++[c]:=by
       have:(cells.toList.take j).length=j:=by rw[fB,Ip];omega
       simp only[aU];rw[kR,OG this]
      refine⟨c::g,?_,?_⟩
      .simp only[sX];rw[AE (A j) (by rw[l];rfl)<|by omega,l,J];rw[L];simp
      .rw[D];exact⟨[c],g,rfl,by rw[l] at s;exact s,K⟩
     split at m
     .rename_i o n i;obtain rfl:=aI m;have hx:=h.cD x;rw[n] at hx;obtain hx:a.eval x=_:=by simpa [cl] using hx
      exact key .rf o (.pointer none) (λt e=>by cases e) (λe=>by cases e) n i rfl (by rw[hx];rfl)
     .rename_i b E q o n i;obtain rfl:=aI m;have hx:=h.cD x;rw[n] at hx;obtain⟨⟨y,M,F⟩,_⟩:=hx;obtain rfl:a.eval x=y:=by simpa using M
      refine key (.ptr b E q) o (a.eval x) (λt e=>by cases e) (λe=>by cases e) n i rfl ?_;generalize a.eval x=y at F⊢;cases y<;>first|rfl|(simp[Value.oneCell'] at F)
     .rename_i f c o n i;obtain rfl:=aI m;have hx:=h.cD x;rw[n] at hx;obtain⟨O,hx,_,_⟩:=hx;obtain hx:a.eval x=_:=by simpa using hx
      exact key (.fn f c) o _ (λt e=>by cases e) (λe=>by cases e) n i rfl (by rw[hx];rfl)
     .cases m
theorem Lu(y:fo P cx){t:TypeId}{A n:Nat}{c:Array (Nat×Operand)}(h:cW B N γ σ a w)(G:∀k,d=some k->k<N)
  (p:(Az cx A d t n c.toList σ).run=some bb):nZ P B N γ σ a w d (Instr.buildSlice t n<|c.map λ(i,x)=>(i,a.eval x)) bb:=by
 unfold Az at p;split at p
 case h_2=>cases p
 rename_i k e v H I;obtain⟨C,r⟩:=aC p;simp only[dv] at C;obtain⟨⟨J,K⟩,s⟩:=C;obtain rfl:=eT J;have L:0<c.toList.length:=by simpa using K
 have D:c.toList.length<=64:=GV s;obtain⟨M,O⟩:=x4 y H;obtain⟨_,Q,z,R,_⟩:=y.rh _ O;obtain⟨f,E,q⟩:∃f,P.info? e=some f/\f.size=1:=by
  have:=Q w;cases hi:P.info? e with
  | none=>simp[Go.sizeOf,typeInfo,hi] at this
  | some f=>simp[Go.sizeOf,typeInfo,hi] at this;exact⟨f,rfl,this⟩
 obtain⟨g,S⟩:∃g,f.zero=some g:=by
  have:=R w;cases hi:f.zero with
  | none=>simp[zeroValue,typeInfo,E,hi] at this
  | some g=>exact⟨g,rfl⟩
 obtain⟨T,l,u⟩:=dM r;obtain rfl:=aI u;obtain⟨m,U,V⟩:=OH (place:=λi=>some (i*f.size,f.size)) (λj=>by rw[q];simp) h (k:=0) (cells:=(Array.range<|c.toList.length*f.size).map (g.cells[· % g.cells.size]!)) (by simp[q]) I;have o:=run_buildSlice w t e c.toList.length (c.map λ(i,x)=>(i,a.eval x)) _ f g M E S (by rw[q];omega) (by rw[q];omega) (by rw[QM];exact U);obtain⟨m1,F⟩:=h.ok.newVar (b:=A+k) (v:=v) (tid:=0) l (cs:=((((Array.range<|c.toList.length*f.size).map (g.cells[· % g.cells.size]!)).toList.take 0)++m).toArray) e (.inl rfl) (by simpa using V);refine⟨_,_,_,o,h.step F m1 (G k rfl) ?_,F⟩;refine⟨⟨_,rfl,rfl⟩,eE (bw _ _) rfl ⟨by simp,w.heap.size,0,by simp[bK],by omega,by omega,by omega,_,_,rfl,by simp,.inr ?_⟩⟩;simp[cG]
theorem EO(p:fo P cx){t:TypeId}{e:Ty}{j k:Nat}(h:cW B N γ σ a w)(q:k<N)(r:find cx.T t=some (.slice e))
  (s:(σ.aT (j+k) (.data (.slice e) ([]:List e.den)) 0 true λaP σ=>.ret (σ.put k<|.whole (j+k) aP)).run=some bb) :
  nZ P B N γ σ a w (some k) (Instr.buildSlice t 0 #[]) bb:=by
 obtain⟨c,u,v,E,y⟩:=(p.T _ _ r).slice;obtain⟨F,G,A,H,C,I⟩:=v.info;obtain⟨aP,f,m⟩:=dM s;obtain rfl:=aI m;have g:(Instr.buildSlice t 0 #[]).run P w=.ok (.slice (some ⟨w.heap.size,0,none⟩) 0 0) (w.alloc<|.cells #[] c):=by
  simp[Instr.buildSlice,run_underlying u,Go.sizeOf,typeInfo,zeroValue,A,C,newRow,Instr.fill];have n:(Array.map (λx:Nat=>(default:Value))<|Array.range 0)=#[]:=by simp[Array.range]
  rw[n]
 obtain⟨D,o⟩:=h.ok.Oz (w':=w.alloc (.cells #[] c)) (b:=j+k) (e:=e) (l:=([]:List e.den)) (tid:=0) (aP:=aP) (cap:=0) f y
  ((uD.refl _ _).alloc h.ok.base _) (cK w _) (heap_alloc_new w _) (xc _ _) (.inl rfl) (cg _) (nY _) (by simp) (λi z n=>by cases n)
 refine⟨_,_,_,g,h.step o D q ?_,o⟩;exact⟨⟨_,rfl,rfl⟩,eE (bw _ _) rfl ⟨e,0,rfl,rfl,.inr ⟨w.heap.size,0,by simp[bK],rfl⟩⟩⟩
end
end Go.Ge
namespace Go.Ge
open RowKit
section
variable {P:Program} {B:qK} {N:Nat} {γ:Gh} {σ bb:St} {a:Act} {w w':World} {d:Option Nat} {cx:Ctx}
theorem Ch:(4294967296:Nat)<=maxLen:=by decide
theorem Dg{n:Nat}(h:fits (n:Int)=true):n<=4294967296:=by simp[fits] at h;omega
theorem zA{b:TypeId}{e:TypeInfo}(c:EI P b=true)(f:P.info? b=some e):e.bytes<=32768:=by
 unfold EI at c;rw[f] at c;exact GV c
theorem xf{mem:Nat->Option bF}{b cap blk:Nat}{bx:bF}{e:Ty}{n:Nat}(c:bx.buf=true)(f:bx.row=some (e,n)) :
  cl (bK γ b<|some (blk,cap)) (cH mem b bx) w' (.whole b bx.aP) .val [.slice (some ⟨blk,0,none⟩) n cap] :=
 ⟨⟨_,rfl,rfl⟩,eE (bw _ _) rfl ⟨e,n,c,f,.inr ⟨blk,cap,by simp[bK],rfl⟩⟩⟩
theorem G8(K:fo P cx){t:TypeId}{u k:Nat}{e:Ty}{x y:Operand}{D E:IntKind}{l c:Int}(h:cW B N γ σ a w)(L:k<N)(M:find cx.T t=some (.slice e))
  (O:cD σ x=.data (.int D) l) (Q:cD σ y=.data (.int E) c) (A:inside 0 l c=true) (R:fits c=true)
  (S:(σ.aT (u+k) (.data (.slice e)<|jN l e.zero) 0 true λaP σ=>.ret (σ.put k<|.whole (u+k) aP)).run=some bb) :
  nZ P B N γ σ a w (some k) (Instr.makeSlice t (a.eval x)<|a.eval y) bb:=by
 obtain⟨aP,p,C⟩:=dM S;obtain rfl:=aI C;obtain⟨_,U,V⟩:=iX A;have F:c<=4294967296:=by simpa [fits] using R
 have q:=h.cD x;have r:=h.cD y;rw[O] at q;rw[Q] at r;obtain⟨W,_⟩:=s6 q;obtain⟨X,_⟩:=s6 r;obtain⟨m,Y,Z,f3,G⟩:=(K.T _ _ M).slice;obtain⟨o,v,H,I,e3,e4⟩:=Z.info;have hb:=zA f3 H;have f:(o.bytes:Int)*c<=281474976710656:=by
  have:(o.bytes:Int)*c<=32768*c:=Int.mul_le_mul_of_nonneg_right (by omega) (by omega);omega
 have s:=run_make (P:=P) w t m o v Y H e3 D E l c U V f (by omega);have g:(madeCells v.cells<|c.toNat*o.size).toList=eM (.arr c.toNat e):=by rw[I];exact uG e4 G _
 have hlen:(jN l e.zero).length=l.toNat:=by simp[jN]
 obtain⟨m1,J⟩:=h.ok.Oz (w':=w.alloc (.cells (madeCells v.cells<|c.toNat*o.size) m)) (b:=u+k) (e:=e) (l:=jN l e.zero) (tid:=0) (aP:=aP) (cap:=c.toNat) p G
  ((uD.refl _ _).alloc h.ok.base _) (cK w _) (heap_alloc_new w _) (xc _ _) (.inl rfl) (by rw[hlen];omega) (by have:=Ch;omega)
  (by rw[I];exact size_madeCells _ _) (λi z hz=>by
   rw[g];have j:(List.replicate l.toNat e.zero)[i]?=some z:=hz;rw[VZ] at j;split at j
   .rename_i hi;obtain rfl:e.zero=z:=by simpa using j
    have:=eJ (eM e) c.toNat i (by omega);rw[dO] at this;rw[show eM (.arr c.toNat e)=(List.replicate c.toNat<|eM e).flatten from rfl,this];exact ng _ _ _
   .cases j)
 refine⟨_,_,_,by rw[W,X];exact s,h.step J m1 L ?_,J⟩;have:=xf (γ:=γ) (w':=w.alloc (.cells (madeCells v.cells<|c.toNat*o.size) m)) (mem:=σ.mem) (b:=u+k) (cap:=c.toNat) (blk:=w.heap.size)
  (bx:={ val:=.data (.slice e) (jN l e.zero),tid:=0,buf:=true,ro:=false,lk:=false,aP }) (e:=e) (n:=l.toNat) rfl (by rw[<-hlen];rfl)
 exact this
theorem OI(b:UInt8):IntKind.u8.min<=((b.toNat:Int))/\((b.toNat:Int))<=IntKind.u8.max:=u8_in b
theorem OJ(l:List Int):(⟨(bh l).toArray⟩:ByteArray)=strOfNums l:=rfl
theorem Xy{I:Nat->Nat->Prop}{l:List Int}{v:Value}{b dst e:TypeId}(h:zx w I (.int .u8) l v)(m:P.underlying b=some (.slice e))(n:P.underlying e=some (.int .u8))(o:P.underlying dst=some .string) :
  (convert b dst v).run P w=.ok (.string ⟨(bh l).toArray⟩) w/\l.length<=maxLen:=by
 rcases h with ⟨rfl,k,c,p,s,q⟩|⟨f,g,c,p,s,q,u⟩
 .rcases q with rfl|⟨f,g,rfl⟩
  .rw[p];refine⟨?_,nY _⟩;cases k with
   | none=>exact run_convert_bytes_nil w b e m n 0 0 dst o
   | some t =>
     rw[run_convert_bytes_string w b dst e _ _ _ m n o];have x:(loadCells t 0).run P w=.ok #[] w:=run_loadCells_list (P:=P) w t [] (λj v y=>by cases y);simp[Conv.bytesToString,Sem.run_bind,x,bh];rfl
  .rw[p];refine⟨?_,nY _⟩;exact run_convert_bytes_arg w b e m n f g 0 c [] rfl (λi r=>by omega) dst o
 .rw[p];refine⟨?_,gj s q⟩;rw[OJ];refine run_convert_bytes_arg w b e m n f g l.length c l rfl (λi r=>?_) dst o;obtain⟨C,D,z,A⟩:=u i l[i] (fN r);obtain⟨rfl,_⟩:=A;have:=z 0 _ rfl;simp only[Ty.size,Bu,wS] at this;rw[this];simp[List.getD,fN r]
theorem EP(l:List Int):(bh l).length=l.length:=by simp[bh]
theorem bytesRow_at{s:aq}{cap i:Nat}{b:UInt8}(c:s[i]?=some b):((bytesRow ⟨s.toArray⟩ cap).toList.drop<|i*1).take 1=[.int .u8 (b.toNat:Int)]:=by
 have hi:=(fq.1 c).1;apply Bq;intro j;rw[fi];split
 .rename_i e;obtain rfl:j=0:=by omega
  rw[mn];simp only[bytesRow,Bu,wS,QF,QM];rw[Ol<|by simpa using hi];simp[c]
 .rename_i e;rw[Om<|by simp;omega]
theorem Lv(s:ByteArray){cap:Nat}(h:s.size<=cap):(bytesRow s cap).size=cap:=by
 simp only[bytesRow,ZL,Array.size_map,Array.size_replicate];have:s.data.size=s.size:=rfl;omega
theorem I7(C:fo P cx){r k:Nat}{j dst:TypeId}{x:Operand}{s:aq}(h:cW B N γ σ a w)(F:k<N)(G:find cx.T j=some .str)(t:find cx.T dst=some (.slice<|.int .u8))
  (H:cD σ x=.data .str s) (I:(σ.aT (r+k) (.data (.slice<|.int .u8)<|av s) 0 true λaP σ=>.ret (σ.put k<|.whole (r+k) aP)).run=some bb) :
  nZ P B N γ σ a w (some k) (convert j dst<|a.eval x) bb:=by
 have hv:=h.cD x;rw[H] at hv;obtain⟨J,K⟩:=wm hv;obtain⟨aP,m,u⟩:=dM I;obtain rfl:=aI u;obtain⟨c,L,M,R,S⟩:=(C.T _ _ t).slice;have g:=run_bytes_of_string (P:=P) w j dst c ⟨s.toArray⟩ (C.T _ _ G).str L M.int;have p:(⟨s.toArray⟩:ByteArray).size=s.length:=by simp[ByteArray.size]
 rw[p] at g;have q:=grownCap_ge w s.length 0 c;have v:=grownCap_le_maxLen w s.length 0 c K;have y:=Lv ⟨s.toArray⟩ (cap:=grownCap w s.length 0 c) (by rw[p];exact q);have hlen:(av s).length=s.length:=by simp[av]
 generalize D:grownCap w s.length 0 c=cap at *;obtain⟨m1,E⟩:=h.ok.Oz (b:=r+k) (e:=.int .u8) (l:=(av s:List Int)) (tid:=0) (aP:=aP) (cap:=cap)
  (w':=w.drew.alloc (.cells (bytesRow ⟨s.toArray⟩ cap) c ((bytesRow ⟨s.toArray⟩ cap).size,(bytesRow ⟨s.toArray⟩ cap).size+1)))
  m (by decide) ((uD.refl B w).drew.alloc h.ok.base _) (cK w.drew _) (heap_alloc_new w.drew _) ⟨λo U V=>by omega,λO=>by cases O⟩ (.inl rfl) (gj (Bt hlen) q) v
  (by rw[y];exact(Bu _).symm) (λi z Q=>by
   have f:(av s)[i]?=some z:=Q;simp only[av,wP] at f;cases A:s[i]? with
   | none=>rw[A] at f;cases f
   | some b =>
     rw[A] at f;obtain rfl:(b.toNat:Int)=z:=aI f;exact⟨bytesRow_at (cap:=cap) A,OI b⟩)
 refine⟨_,_,_,by rw[J];exact g,h.step E m1 F ?_,E⟩;have:=xf (γ:=γ) (mem:=σ.mem) (b:=r+k) (cap:=cap) (blk:=w.heap.size)
  (bx:={ val:=.data (.slice<|.int .u8) (av s),tid:=0,buf:=true,ro:=false,lk:=false,aP }) (e:=.int .u8) (n:=s.length)
  (w':=w.drew.alloc (.cells (bytesRow ⟨s.toArray⟩ cap) c ((bytesRow ⟨s.toArray⟩ cap).size,(bytesRow ⟨s.toArray⟩ cap).size+1))) rfl (by rw[<-hlen];rfl)
 exact this
theorem Dh(e:fo P cx){q:Nat}{g dst:TypeId}{x:Operand}(h:cW B N γ σ a w)(j:∀k,d=some k->k<N)(c:(gI cx q d g dst (cD σ x) σ).run=some bb) :
  nZ P B N γ σ a w d (convert g dst<|a.eval x) bb:=by
 have hv:=h.cD x;unfold gI at c;split at c
 .rename_i z k A n f b i;rw[i] at hv;obtain⟨m,_⟩:=s6 hv;obtain rfl:=aI c;refine bN h j (x:=.int k (k.wrap n)) ?_ (mkInt<|ff _ _);rw[m];simp[convert,run_underlying (e.T _ _ f).int,run_underlying (e.T _ _ b).int,Conv.intToInt]
 .rename_i s f b i;rw[i] at hv;obtain rfl:=aI c;obtain⟨m,p⟩:=wm hv;refine bN h j (x:=a.eval x) ?_ hv;rw[m];simp[convert,run_underlying (e.T _ _ f).str,run_underlying (e.T _ _ b).str]
 .rename_i s f b i;split at c
  .rename_i k;obtain⟨C,o⟩:=cv c;exact I7 e h (j k rfl) f b i o
  .exact absurd c (by intro k;cases k)
 .rename_i D f b;split at c
  .rename_i l p;obtain rfl:=aI c;obtain⟨r,t,u,E,F⟩:=(e.T _ _ f).slice;obtain⟨v,y⟩:=Xy (dst:=dst) (rm h.ok hv p) t u.int (e.T _ _ b).str;refine bN h j v ⟨_,⟨rfl,?_⟩,rfl⟩;exact gj (Bt<|EP l) y
  .exact absurd c (by intro k;cases k)
 .exact absurd c (by intro k;cases k)
end
end Go.Ge
namespace Go.Ge
open RowKit
section
variable {P:Program} {B:qK} {N:Nat} {γ:Gh} {σ bb:St} {a:Act} {w w':World} {d:Option Nat} {cx:Ctx}
def eO(w:World)(I:Nat->Nat->Prop)(e:Ty)(l:List e.den)(cs:List Value):Prop :=
 ∀(i:Nat) (x:e.den),l[i]?=some x->bI w I e x ((cs.drop<|i*e.size).take e.size)
theorem nh{c:Type}{a b:List c}{i s:Nat}(h:(i+1)*s<=a.length):((a++b).drop<|i*s).take s=(a.drop<|i*s).take s:=by
 rw[zm] at h;rw[MQ<|by omega,TN (by rw[kx];omega)]
theorem eO.append{I:Nat->Nat->Prop}{e:Ty}{l m:List e.den}{c f rest:List Value}(j:eO w I e l c)(k:eO w I e m f)(g:c.length=l.length*e.size)(n:f.length=m.length*e.size) :
  eO w I e (l++m) (c++f++rest):=by
 intro i x b;rw[On] at b;split at b
 .rename_i h;have o:(i+1)*e.size<=l.length*e.size:=fO _ h;rw[kR,nh (by omega)];exact j i x b
 .rename_i h;have p:i-l.length<m.length:=(fq.1 b).1;have o:(i-l.length+1)*e.size<=m.length*e.size:=fO _ p;have q:i*e.size=c.length+(i-l.length)*e.size:=by rw[g,<-gx];congr 1;omega
  rw[kR,q,<-vm,Bf,nh (by omega)];exact k _ x b
theorem eO.front{I:Nat->Nat->Prop}{e:Ty}{l:List e.den}{b:List Value}{n:Nat}(h:eO w I e l b)(f:l.length*e.size<=n)(g:n<=b.length):eO w I e l (b.take n):=by
 intro i x c;have hi:i<l.length:=(fq.1 c).1;have j:(i+1)*e.size<=l.length*e.size:=fO _ hi;have:(((b.take n)++b.drop n).drop<|i*e.size).take e.size=((b.take n).drop<|i*e.size).take e.size:=nh (by rw[fB];omega);rw[<-this,uu];exact h i x c
theorem acB{I:Nat->Nat->Prop}{e:Ty}{m:List e.den}{v:Value}{o z p:TypeId}(q:(∃p,P.underlying o=some (.slice p))\/P.underlying o=some .string)(l:P.underlying z=some (.slice p))(h:zx w I e m v) :
  ∃b,Src P e.size o v m.length b w/\eO w I e m b:=by
 suffices ∃b,Src P e.size z v m.length b w/\eO w I e m b by
  obtain⟨b,c,r⟩:=this;exact⟨b,⟨q,c.len,c.cells,c.cellsD,c.newsLen,c.one⟩,r⟩
 rcases h with ⟨rfl,g,f,n,C,A⟩|⟨s,t,f,n,C,A,D⟩
 .refine⟨[],?_,λi x E=>by cases E⟩;rcases A with rfl|⟨s,t,rfl⟩
  .rw[n];cases g with
   | none=>exact Src.ofNil w l 0
   | some F=>exact Src.ofSlice w l F 0 0 [] (by simp) (λj u k=>by cases k) (λu y=>by cases y)
  .rw[n];exact Src.ofSlice w l _ 0 f [] (by simp) (λj u k=>by cases k) (λu y=>by cases y)
 .obtain⟨b,c,r,G,H⟩:=Cf (w:=w) D;refine⟨b,?_,H⟩;rw[n];exact Src.ofSlice w l _ m.length f b c (λj u k=>by rw[addr_add];exact r j u k) G
theorem acC{I:Nat->Nat->Prop}{s:aq}{g:TypeId}(k:(∃l,P.underlying g=some (.slice l))\/P.underlying g=some .string) :
  ∃e,Src P 1 g (.string ⟨s.toArray⟩) (av s).length e w/\eO w I (.int .u8) (av s:List Int) e:=by
 have hlen:(av s).length=(⟨s.toArray⟩:ByteArray).size:=by simp[av,ByteArray.size]
 refine⟨byteCells ⟨s.toArray⟩,by rw[hlen];exact⟨k,λ_=>rfl,firstCells_string _ w,firstCells_string _ w.drew,by rw[byteCells_length,Bu],λu m=>by
  obtain⟨_,_,rfl⟩:=pQ.1 m;rfl⟩,λi x n=>?_⟩
 have c:(av s)[i]?=some x:=n;simp only[av,wP] at c;cases h:s[i]? with
 | none=>rw[h] at c;cases c
 | some b =>
   rw[h] at c;obtain rfl:(b.toNat:Int)=x:=aI c;refine⟨?_,OI b⟩;apply Bq;intro j;rw[fi];split
   .rename_i f;obtain rfl:j=0:=by simp[Ty.size] at f;exact f
    rw[mn];simp[byteCells,Ty.size,h]
   .rename_i f;rw[Om<|by simp[Ty.size] at f⊢;omega]
theorem zB{I:Nat->Nat->Prop}{t tx ty b:TypeId}{e:Ty}{l m:List e.den}{base:Option Addr}{sCap:Nat}{olds c:List Value}{x:Value}(A:P.underlying t=some (.slice b))(C:Den P e b)(D:EI P b=true)
  (f:(Builtin.firstCells e.size l.length<|.slice base l.length sCap).run P w.drew=.ok olds.toArray w.drew) (g:olds.length=l.length*e.size) (E:eO w I e l olds)
  (j:Src P e.size tx x m.length c w) (F:eO w I e m c) (v:sCap<l.length+m.length) (G:l.length+m.length<=4294967296) :
  ∃(cap:Nat) (cells:Array Value),(Builtin.append_ #[t,tx] ty #[.slice base l.length sCap,x]).run P w=.ok (.slice (some ⟨w.heap.size,0,none⟩) (l.length+m.length) cap) (w.drew.alloc<|.cells cells b) /\
   l.length+m.length<=cap/\cap<=maxLen/\cells.size=cap*e.size/\eO w I e (l++m) cells.toList:=by
 obtain⟨k,n,y,z,H,J⟩:=C.info;have o:=zA D y;have h:=growslice_fits (need:=l.length+m.length) (old:=sCap) (bytes:=k.bytes) v (by
  have:(l.length+m.length)*k.bytes<=4294967296*32768:=Nat.mul_le_mul G o;omega)
 have i:=run_append_grow_src (P:=P) w t tx ty b k n A y H base l.length sCap olds (by rw[z];exact f) x m.length c (by rw[z];exact j) v (by omega) h;have p:=grownCap_ge w (l.length+m.length) sCap b;have q:=grownCap_le_maxLen w (l.length+m.length) sCap b (by have:=Ch;omega);have r:n.cells.size=e.size:=by rw[<-dO e,<-J];simp
 refine⟨_,_,i,p,q,?_,?_⟩
 .have s:=j.newsLen;have u:(Builtin.zeroCells n.cells<|grownCap w (l.length+m.length) sCap b-(l.length+m.length)).size=(grownCap w (l.length+m.length) sCap b-(l.length+m.length))*e.size:=by
   simp[Builtin.zeroCells,r]
  rw[ZL,u];simp only[GW,fQ,g,s];rw[<-gx,<-gx]
  congr 1;omega
 .rw[QF];exact E.append F g j.newsLen
theorem bB.grow{r:Nat->Option bF}(h:bB B γ r w){b:Nat}{bx:bF}(A:r b=some bx){e:Ty}{l l':List e.den}(p:bx.buf=true)(G:bx.val=.data (.slice e) l){g cap:Nat}(hl:γ.loc b=some (g,cap))
  {s cur':Array Value} {t:TypeId} {fr:Nat×Nat} (Q:w.heap[g]?=some (.cells s t fr)) (H:ThB e s fr) (acx:bx.tid=0\/t=bx.tid) (R:cur'.size=s.size) (D:∀o,o<l.length*e.size->cur'[o]?=s[o]?)
  (he:0<e.size) (J:l.length<=l'.length) (aer:l'.length<=cap) (aal:cap<=maxLen) (K:s.size=cap*e.size) (L:eO w γ.I e l' cur'.toList) :
  let j:bF:={ bx with val:=.data (.slice e) l',aP:=bx.aP+1 }
  bB B γ (cH r b j) (w.setRow g cur')/\Ext B γ r w γ (cH r b j) (w.setRow g cur'):=by
 intro j;have T:=h.fresh b g cap (by rw[A];simp) hl;have aes:=setRow_heap w g s cur' t fr Q;have m:∀i,i≠g->(w.setRow g cur').heap[i]?=w.heap[i]?:=λi y=>setRow_other w g i cur' (λe=>y e);have C:=bF.dk p G;have hx:Ext B γ r w γ (cH r b j) (w.setRow g cur') :=
  { below:=⟨rfl,rfl,rfl,by simp,λi y=>m i λe=>y (by rw[e];exact T.1)⟩
    I:=λ_ _ x=>x
    pZ:=λ_ _ x=>.inl x
    cells:=λc o x=>by
     by_cases v:c=g
     .subst v;have:=(h.sep b bx c cap o A hl x).2 p e l.length C;rw[cell_of_heap aes,cell_of_heap Q];exact D o this
     .exact di (m c v)
    boxes:=λc cx q=>by
     by_cases v:c=b
     .subst v;obtain rfl:cx=bx:=aI (q.symm.trans A);exact⟨j,bw _ _,Nat.le_succ _,λk=>absurd k (by simp[j])⟩
     .exact⟨cx,by rw[aV _ v];exact q,cg _,λ_=>⟨rfl,rfl,rfl⟩⟩ }
 refine⟨?_,hx⟩;exact
  { cU:=h.C5 hx
    base:=by have:=h.base;simpa using this
    boxes:=λc cx q=>by
     by_cases v:c=b
     .subst v;rw[bw] at q;obtain rfl:=aI q;unfold cE;simp only[j,p];exact⟨e,l',rfl,he,.inr ⟨g,cap,cur',t,fr,hl,aes,H.same R,acx,aer,aal,by rw[R];exact K,λi x y=>bI.mono hx.I hx.cells (L i x y)⟩⟩
     .rw[aV _ v] at q;refine(h.boxes c cx q).keep hx rfl λf E M=>m f λU=>v ?_;subst U;exact h.inj c b f E cap (by rw[q];simp) (by rw[A];simp) M hl
    inj:=λc d f V W q X F Y=>h.inj c d f V W (by
     by_cases e:c=b
     .subst e;rw[A];simp
     .rwa [aV _ e] at q) (by
     by_cases e:d=b
     .subst e;rw[A];simp
     .rwa [aV _ e] at X) F Y
    fresh:=λc f E q F=>by
     have:=h.fresh c f E (by
      by_cases e:c=b
      .subst e;rw[A];simp
      .rwa [aV _ e] at q) F
     exact⟨this.1,by simpa using this.2⟩
    tu:=λf z y=>by have:=h.tu f z y;simpa using this
    sep:=λc cx f E z q F y=>by
     by_cases v:c=b
     .subst v;rw[bw] at q;obtain rfl:=aI q;obtain⟨Z,s2⟩:=h.sep c bx f E z A F y;refine⟨Z,λ_ u n S=>?_⟩;have O:j.row=some (e,l'.length):=bF.dk (bx:=j) p rfl;rw[O] at S;obtain⟨rfl,rfl⟩:=br (aI S);have:=s2 p e l.length C;exact B6 this (fO _ J)
     .rw[aV _ v] at q;exact h.sep c cx f E z q F y }
theorem aam(j:bB B γ σ.mem w){e:Ty}{m:List e.den}{x:aO}{v:Value}{f k g:TypeId}(c:(∃g,P.underlying f=some (.slice g))\/P.underlying f=some .string)(l:P.underlying k=some (.slice g))
  (i:cl γ σ.mem w x .val [v]) (h:ux e σ x=some m):∃b,Src P e.size f v m.length b w/\eO w γ.I e m b:=by
 unfold ux at h;split at h
 .rename_i t;obtain⟨q,n⟩:=jM h;subst q;subst n;obtain⟨o,_⟩:=wm i;rw[o];exact acC c
 .exact acB c l (rm j i h)
theorem x6{α:Type}{c:Bool}{t:Tree α}{y:α}(h:(bif c then .fail else t).run=some y):c=false/\t.run=some y:=by
 cases c with
 | true=>cases h
 | false=>exact⟨rfl,h⟩
theorem p5{base:Option Addr}{t i ty f:TypeId}{b:Nat}{x:Value}{c:List Value}(j:P.underlying t=some (.slice f))(g:(Go.sizeOf f).run P w=.ok b w)(e:Src P b i x 0 c w) :
  (Builtin.append_ #[t,i] ty #[.slice base 0 0,x]).run P w=.ok (.slice base 0 0) w:=by
 cases base with
 | none=>rcases e.kind with ⟨k,h⟩|h<;>simp[Builtin.append_,run_underlying j,run_underlying h,g,e.len,e.cells]
 | some m =>
   have l:c=[]:=by have:=e.newsLen;simpa using this
   subst l;rcases e.kind with ⟨k,h⟩|h<;>simp[Builtin.append_,run_underlying j,run_underlying h,g,e.len,e.cells,storeCells]
theorem Bi(b:Nat)(c:Option Addr):(Builtin.firstCells b 0<|.slice c 0 0).run P w=.ok #[] w:=by
 cases c with
 | none=>exact run_firstCells_none w b 0 0 0
 | some e=>exact run_firstCells_some w b 0 e 0 0 [] (by simp) (λj v f=>by cases f)
theorem kE{t tx ty h:TypeId}{c:Nat}{x:Value}{e:List Value}{n b sCap f:Nat}{cur:Array Value}{o:TypeId}{k:Nat×Nat}(q:P.underlying t=some (.slice h))(l:(Go.sizeOf h).run P w=.ok c w)
  (j:Src P c tx x n e w) (r:w.heap[f]?=some (.cells cur o k)) (m:lT cur k) (g:b+n<=sCap) (s:b*c+e.length<=cur.size) :
  (Builtin.append_ #[t,tx] ty #[.slice (some ⟨f,0,none⟩) b sCap,x]).run P w=.ok (.slice (some ⟨f,0,none⟩) (b+n) sCap) (w.setRow f (aU cur.toList (b*c) e).toArray):=by
 have i:=cM (P:=P) f (b*c) o k e 0 cur w r m (by omega) j.one;simp only[wS] at i;rcases j.kind with ⟨u,p⟩|p<;>simp[Builtin.append_,run_underlying q,run_underlying p,l,j.len,g,j.cells,addr_add,i]
theorem Ci{b es:List Value}{k o:Nat}(h:o<k)(c:k<=b.length):(aU b k es)[o]?=b[o]?:=by
 rw[aU,kR,Ol (by rw[fB];omega),fi,aQ h]
theorem ER(hc:fo P cx){nb:Nat}{t tx ty:TypeId}{s x:Operand}(h:cW B N γ σ a w)(hd:∀k,d=some k->k<N)(hk0:(∃e',P.underlying tx=some (.slice e'))\/P.underlying tx=some .string)
  (H:(gY cx nb d t (cD σ s) (cD σ x) σ).run=some bb):nZ P B N γ σ a w d (Builtin.append_ #[t,tx] ty #[a.eval s,a.eval x]) bb:=by
 have Q:=h.cD s;have hvx:=h.cD x;unfold gY at H;split at H
 case h_2=>exact absurd H (by intro k;cases k)
 rename_i _ _ k e hT;obtain⟨y,R,f2,f3,f4⟩:=(hc.T _ _ hT).slice;have V:=f2.sizeOf w;split at H
 case h_2=>exact absurd H (by intro k;cases k)
 rename_i m hm;have hm:ux e σ (cD σ x)=some m:=hm;obtain⟨z,W,n2⟩:=aam h.ok hk0 R hvx hm;split at H
 .rename_i hs;rw[hs] at Q;obtain J:a.eval s=_:=by simpa [cl] using Q
  obtain⟨S,X⟩:=cv H;have S:m.length<=4294967296:=Dg S;obtain⟨aP,E,hr3⟩:=dM X;obtain rfl:=aI hr3;rw[J];rcases QG m.length with D|D
  .obtain rfl:m=[]:=wN.1 D;obtain⟨m1,r⟩:=h.ok.IX (b:=nb+k) (tid:=0) E f4;refine⟨_,_,_,p5 R V W,h.step r m1 (hd k rfl) ?_,r⟩;exact⟨⟨_,rfl,rfl⟩,eE (bw _ _) rfl ⟨e,0,rfl,rfl,.inl ⟨by simp[bK],rfl⟩⟩⟩
  .obtain⟨cap,f,g1,g2,O,g4,g5⟩:=zB (I:=γ.I) (ty:=ty) (l:=([]:List e.den)) (base:=none) (sCap:=0) (olds:=[]) R f2 f3 (by simpa using run_firstCells_none w.drew e.size 0 0 0) (by simp) (λi x hx=>by cases hx) W n2
    (by simpa using D) (by simpa using S)
   simp only[eB,sr,sW] at g1 g2 g5;obtain⟨m1,r⟩:=h.ok.Oz (b:=nb+k) (e:=e) (l:=m) (tid:=0) (aP:=aP) (cap:=cap) E f4 ((uD.refl B w).drew.alloc h.ok.base _) (cK w.drew _) (heap_alloc_new w.drew _) (xc _ _) (.inl rfl) g2 O g4 g5;refine⟨_,_,_,g1,h.step r m1 (hd k rfl) ?_,r⟩;exact xf (bx:={ val:=.data (.slice e) m,tid:=0,buf:=true,ro:=false,lk:=false,aP }) (e:=e) (n:=m.length) rfl rfl
 .rename_i b aP hs;rw[hs] at Q;split at H
  case h_2=>exact absurd H (by intro k;cases k)
  rename_i bx l Y hl;obtain⟨Z,hb',E,c,hbv⟩:∃bx,σ.mem b=some bx/\bx.aP=aP/\bx.buf=true/\bx.val=.data (.slice e) l:=by
   rcases mz hl with q|⟨q,_⟩|⟨b',ajL,Z,q,h1,K,h3,h4⟩|⟨_,_,_,_,_,q,_⟩
   .cases q
   .cases q
   .cases q;exact⟨Z,h1,K,h3,h4⟩
   .cases q
  obtain rfl:bx=Z:=aI (Y.symm.trans hb')
  .obtain⟨hlk,hr1⟩:=x6 H;obtain⟨S,X⟩:=cv hr1;obtain rfl:=aI X;have S:l.length+m.length<=4294967296:=by
    have:fits (((l.length+m.length:Nat)):Int)=true:=by rw[<-S];simp[plus,len]
    exact Dg this
   have U:bx.tid=0\/y=bx.tid:=by
    simp only[vl,FV] at hlk;have K:=hlk.2;unfold aei at K;simp only[wc] at K;rcases K with K|K
    .exact .inl (eT K)
    .split at K
     .rename_i e' he';have:=hc.Wd _ _ he';rw[R] at this;have h4:y=e':=by injection this with this;injection this
      exact .inr (h4.trans<|eT K)
     .cases K
   subst E;obtain⟨e2,n2',g1,g2,O⟩:=bk Y rfl Q.2;rw[bF.dk c hbv] at g2;obtain⟨rfl,rfl⟩:=br (aI g2);have hat:=h.ok.boxes b bx Y;rw[cE,c] at hat;obtain⟨e3,l3,q1,q2,G⟩:=hat;rw[hbv] at q1;cases q1;have g:(app (α:=e.den) l m).length=l.length+m.length:=fQ;rcases O with ⟨O,g4⟩|⟨A,cap,O,g4⟩
   .obtain J:a.eval s=_:=by simpa using g4
    have hl0:l=[]:=by
     rcases G with ⟨_,G⟩|⟨A,cap,u,tid,fr,G,_⟩
     .exact G
     .rw[O] at G;cases G
    subst hl0;rw[J];rcases QG m.length with D|D
    .obtain rfl:m=[]:=wN.1 D;have M:cE (bK γ b none) (cH σ.mem b { bx with val:=.data (.slice e) ([]:List e.den),aP:=bx.aP+1 }) w b { bx with val:=.data (.slice e) ([]:List e.den),aP:=bx.aP+1 }:=by
      unfold cE;simp only[c];exact⟨e,[],rfl,f4,.inl ⟨by simp[bK],rfl⟩⟩
     have C:∀p,σ.mem b=some p->p.aP<bx.aP+1:=λp D=>by rw[Y] at D;obtain rfl:=aI D;omega
     have m1:=h.ok.add (L:=none) C (uD.refl B w) (λ_ _=>rfl) (λA k e=>by cases e) M;have r:=tI (L:=none) h.ok (bx:={ bx with val:=.data (.slice e) ([]:List e.den),aP:=bx.aP+1 }) C (uD.refl B w) (λ_ _=>rfl);refine⟨_,_,_,p5 R V W,h.step r m1 (hd k rfl) ?_,r⟩;exact⟨⟨_,rfl,rfl⟩,eE (bw _ _) rfl ⟨e,0,c,bF.dk (bx:={ bx with val:=.data (.slice e) ([]:List e.den),aP:=bx.aP+1 }) c rfl,.inl ⟨by simp[bK],rfl⟩⟩⟩
    .obtain⟨cap,f,j1,j2,j3,j4,j5⟩:=zB (I:=γ.I) (ty:=ty) (l:=([]:List e.den)) (base:=none) (sCap:=0) (olds:=[]) R f2 f3 (by simpa using Bi (w:=w.drew) e.size none) (by simp) (λi x hx=>by cases hx) W n2
      (by simpa using D) (by simpa using S)
     have C:∀p,σ.mem b=some p->p.aP<bx.aP+1:=λp D=>by rw[Y] at D;obtain rfl:=aI D;omega
     have hw:uD B w (w.drew.alloc<|.cells f y):=(uD.refl B w).drew.alloc h.ok.base _;have r:=tI (L:=some (w.heap.size,cap)) h.ok (bx:={ bx with val:=.data (.slice e) (app (α:=e.den) [] m),aP:=bx.aP+1 }) C hw (cK w.drew _);have M:cE (bK γ b<|some (w.heap.size,cap)) (cH σ.mem b { bx with val:=.data (.slice e) (app (α:=e.den) [] m),aP:=bx.aP+1 }) (w.drew.alloc<|.cells f y) b { bx with val:=.data (.slice e) (app (α:=e.den) [] m),aP:=bx.aP+1 }:=by
      unfold cE;simp only[c];exact⟨e,_,rfl,f4,.inr ⟨w.heap.size,cap,f,y,(0,0),by simp[bK],heap_alloc_new w.drew _,xc _ _,U,by rw[g];exact j2,j3,j4,λi x hi=>bI.mono r.I r.cells (j5 i x hi)⟩⟩
     have m1:=h.ok.add (L:=some (w.heap.size,cap)) C hw (cK w.drew _) (λA k e=>by obtain⟨rfl,rfl⟩:=br (aI e);exact⟨cg _,(vk.1<|heap_alloc_new w.drew _).1⟩) M;refine⟨_,_,_,j1,h.step r m1 (hd k rfl) ?_,r⟩;exact xf (bx:={ bx with val:=.data (.slice e) (app (α:=e.den) [] m),aP:=bx.aP+1 }) (e:=e) (n:=List.length (α:=e.den) []+m.length) c (by rw[<-g];exact bF.dk (bx:={ bx with val:=.data (.slice e) (app (α:=e.den) [] m),aP:=bx.aP+1 }) c rfl)
   .obtain J:a.eval s=_:=by simpa using g4
    rw[J];rcases G with ⟨G,_⟩|⟨acv,acw,u,tid,fr,G,q4,q5,afB,q6,q7,q8,q9⟩
    .rw[O] at G;cases G
    rw[O] at G;obtain⟨rfl,rfl⟩:=br (aI G);have hcl:u.toList.length=cap*e.size:=by simpa using q8
    have hlc:l.length*e.size<=cap*e.size:=fO _ q6;rcases sY cap (l.length+m.length) with hgt|hle
    .have hfc:=run_firstCells_some (P:=P) w.drew e.size l.length ⟨A,0,none⟩ l.length cap (u.toList.take<|l.length*e.size) (by rw[fB];omega) (λj v hj=>by
      rw[addr_add];show w.cell? ⟨A,0+j,none⟩=some v
      rw[cell_of_heap q4];rw[fi] at hj;split at hj
      .simpa using hj
      .cases hj)
     obtain⟨F,f,j1,j2,j3,j4,j5⟩:=zB (I:=γ.I) (ty:=ty) (l:=l) (base:=some ⟨A,0,none⟩) (sCap:=cap) R f2 f3 hfc (by rw[fB];omega) (eO.front q9 (cg _)<|by omega) W n2 hgt S;have C:∀p,σ.mem b=some p->p.aP<bx.aP+1:=λp D=>by rw[Y] at D;obtain rfl:=aI D;omega
     have hw:uD B w (w.drew.alloc<|.cells f y):=(uD.refl B w).drew.alloc h.ok.base _;have r:=tI (L:=some (w.heap.size,F)) h.ok (bx:={ bx with val:=.data (.slice e) (app (α:=e.den) l m),aP:=bx.aP+1 }) C hw (cK w.drew _);have M:cE (bK γ b<|some (w.heap.size,F)) (cH σ.mem b { bx with val:=.data (.slice e) (app (α:=e.den) l m),aP:=bx.aP+1 }) (w.drew.alloc<|.cells f y) b { bx with val:=.data (.slice e) (app (α:=e.den) l m),aP:=bx.aP+1 }:=by
      unfold cE;simp only[c];exact⟨e,_,rfl,f4,.inr ⟨w.heap.size,F,f,y,(0,0),by simp[bK],heap_alloc_new w.drew _,xc _ _,U,by rw[g];exact j2,j3,j4,λi x hi=>bI.mono r.I r.cells (j5 i x hi)⟩⟩
     have m1:=h.ok.add (L:=some (w.heap.size,F)) C hw (cK w.drew _) (λA k e=>by obtain⟨rfl,rfl⟩:=br (aI e);exact⟨cg _,(vk.1<|heap_alloc_new w.drew _).1⟩) M;refine⟨_,_,_,j1,h.step r m1 (hd k rfl) ?_,r⟩;exact xf (bx:={ bx with val:=.data (.slice e) (app (α:=e.den) l m),aP:=bx.aP+1 }) (e:=e) (n:=l.length+m.length) c (by rw[<-g];exact bF.dk (bx:={ bx with val:=.data (.slice e) (app (α:=e.den) l m),aP:=bx.aP+1 }) c rfl)
    .have hnl:=W.newsLen;have hmul:(l.length+m.length)*e.size<=cap*e.size:=fO _ hle;rw[gx] at hmul;have hlen:l.length*e.size+z.length<=u.toList.length:=by rw[hnl,hcl];exact hmul
     have aeu:=kE (P:=P) (t:=t) (tx:=tx) (ty:=ty) (sCap:=cap) R V W q4 q5.th hle (by simpa using hlen);have ahp:(aU u.toList (l.length*e.size) z).toArray.size=u.size:=by have:=bM hlen;simpa using this
     obtain⟨m1,r⟩:=h.ok.grow Y c hbv O q4 q5 afB (cur':=(aU u.toList (l.length*e.size) z).toArray) (l':=app (α:=e.den) l m) ahp (λo ho=>by
      have:=Ci (es:=z) ho (by omega:l.length*e.size<=u.toList.length);simpa using this) f4 (by rw[g];omega) (by rw[g];exact hle) q7 q8 (by
      have:=(eO.front q9 (cg _) (by omega:l.length*e.size<=u.toList.length)).append (rest:=u.toList.drop (l.length*e.size+z.length)) n2 (by rw[fB];omega) hnl;exact this)
     refine⟨_,_,γ,aeu,h.step r m1 (hd k rfl) ?_,r⟩;exact⟨⟨_,rfl,rfl⟩,eE (bw _ _) rfl ⟨e,l.length+m.length,c,by rw[<-g];exact bF.dk (bx:={ bx with val:=.data (.slice e) (app (α:=e.den) l m),aP:=bx.aP+1 }) c rfl,.inr ⟨A,cap,O,rfl⟩⟩⟩
 .exact absurd H (by intro k;cases k)
end
end Go.Ge
