/- A ghost interpreter of the model's code, and that it tells the truth: part 4. It says of a function of plain data what a call of it comes to. -/
import Derived.Test.YtbaijbjhkmoidaaGreatDoorGeC
import Derived.Great.BuildSlice
import Derived.Laws.IdiomStrings
import Derived.Laws.BytesArg
import Derived.Laws.MakeOwn
import Derived.Deep.AppendSrc
set_option linter.unusedVariables false
set_option linter.unusedSimpArgs false
set_option linter.unusedSectionVars false
namespace Go.Ge
open RowKit
section
variable {P:Program} {B:Own} {N:Nat} {γ:Gh} {σ aB:St} {a:Act} {w:World} {d:Option Nat} {cx:Ctx}
theorem EI{bx:aS}{k:Nat}{c v:ax}{f:ax->Tree ax}(j:bx.buf=false)(l:bx.val=v)(h:(rY v k f).run=some c):({ bx with val:=c }:aS).row=bx.row:=by
 obtain⟨g,tid,m,r,s,o⟩:=bx;subst j;subst l;cases g with
 | data t x =>
   obtain⟨y,i,b⟩:=bind_some (show((vY t x k f).bind λy=>.ret (.data t y)).run=some c from h);obtain rfl:=aq b;cases t with
   | arr n e=>cases k<;>exact absurd i (by intro k;cases k)
   | _=>rfl
 | mix p q =>
   cases k with
   | zero =>
     obtain⟨y,i,b⟩:=bind_some (show((f p).bind λv=>.ret (.mix v q)).run=some c from h);obtain rfl:=aq b;rfl
   | succ k =>
     obtain⟨y,i,b⟩:=bind_some (show((rY q k f).bind λv=>.ret (.mix p v)).run=some c from h);obtain rfl:=aq b;rfl
 | _=>exact absurd h (by intro k;cases k)
theorem L2{bx:aS}{e:Ty}{l:List e.den}{i:Int}{y:e.den}(b:bx.buf=true)(c:bx.val=.data (.slice e) l):({ bx with val:=.data (.slice e) (o5 l i y) }:aS).row=bx.row:=by
 rw[aS.ck b c,aS.ck (bx:={ bx with val:=.data (.slice e) (o5 l i y) }) (l:=o5 l i y) b rfl];simp[o5]
theorem u7{bx:aS}{p:List rW}{v c:ax}(h:(vZ bx.buf p bx.val v).run=some c)(m:p=[]->bx.buf=false->({ bx with val:=v }:aS).row=bx.row) :
  ({ bx with val:=c }:aS).row=bx.row:=by
 unfold vZ at h;split at h
 .rename_i b;cases p with
  | nil=>obtain rfl:=aq h;exact m rfl b
  | cons s p =>
    cases s with
    | AR k off=>exact EI b rfl h
    | idx i size =>
      simp only[nQ] at h;split at h
      .rename_i n e l g;obtain⟨x,o,j⟩:=bo h;obtain⟨z,q,f⟩:=bind_some j;split at f
       .obtain rfl:=aq f;rw[aS.kk b g];exact aS.kk (bx:={ bx with val:=_ }) b rfl
       .exact absurd f (by intro k;cases k)
      .exact absurd h (by intro k;cases k)
 .rename_i b;split at h
  .rename_i i size p e l g;obtain⟨x,o,j⟩:=bo h;obtain⟨z,q,f⟩:=bind_some j;split at f
   .obtain rfl:=aq f;exact L2 b g
   .exact absurd f (by intro k;cases k)
  .exact absurd h (by intro k;cases k)
theorem rI(h:b6 B N γ σ a w){b au:Nat}{p:List rW}{O:ax->Bool}{u:ax}{es:List Value}(Q:(storeAt b au p O u σ).run=some aB)(hu:bw γ σ.mem w u .cells es)
  (V:∀H,O H=true->es.length=b4 H) (W:∀bx:aS,O bx.val=true->bx.buf=false->({ bx with val:=u }:aS).row=bx.row)
  {o q:Nat} (R:γ.loc b=some (o,q)) :
  ∃w',(storeCells ⟨o,b3 p,none⟩ es).run P w=.ok () w'/\b6 B N γ aB a w'/\Ext B γ σ.mem w γ aB.mem w':=by
 unfold storeAt at Q;split at Q
 case h_2=>exact absurd Q (by intro k;cases k)
 rename_i bx hb;obtain⟨hc,OP⟩:=ak Q;simp only[cA,fO] at hc;obtain⟨⟨R4,IX⟩,X⟩:=hc;obtain⟨H,m,J0⟩:=bind_some OP;obtain⟨L,P0⟩:=ak J0;obtain⟨c,S,P4⟩:=bind_some P0;obtain rfl:=aq P4;have r:=V H L;have Y:({ bx with val:=c }:aS).row=bx.row:=u7 S λhp g=>by
  subst hp;rw[g] at m;obtain rfl:=aq m;exact W bx L g
 have t:=h.ok.boxes b bx hb;unfold ca at t;unfold Hk at m;unfold vZ at S;have R5:bx.buf=false\/bx.buf=true:=by cases bx.buf<;>simp
 rcases R5 with g|g
 .rw[g] at t m S;obtain⟨Z,CZ,f,tid,fr,U,h2,F,A,h4⟩:=t;rw[R] at U;obtain⟨rfl,rfl⟩:=b8 (aq U);obtain⟨k1,k2⟩:=nB h4 m;have C:b3 p+es.length<=f.toList.length:=by rw[r];exact k1
  have D:=cQ (P:=P) o (b3 p) tid fr es 0 f w h2 F (by simpa using C) (λv hv=>hu.one v hv);rw[rq] at D;have J:(aZ f.toList (b3 p) es).toArray.size=f.size:=by have:=cf C;simpa using this
  obtain⟨m1,m2⟩:=h.ok.write hb X R h2 (cur':=(aZ f.toList (b3 p) es).toArray) (v:=c) J Y
   (λw' cm G hg=>by
    show ca γ cm w' b { bx with val:=c }
    unfold ca;simp only[g];exact⟨o,q,_,tid,fr,R,hg,F.same J,A,by simpa using pe (h4.ext G) m S (hu.ext G) r⟩)
  exact⟨_,D,h.go m2 m1,m2⟩
 .rw[g] at t m S;rcases t with ⟨l,U,_⟩|⟨e,l,U,h2,F⟩
  .rw[U] at m;cases p with
   | nil=>cases m
   | cons s p=>cases s<;>cases m
  rw[U] at m S;rcases F with ⟨F,_⟩|⟨Z,CZ,f,tid,fr,F,h4,h5,A,h6,h7,h8,h9⟩
  .rw[R] at F;cases F
  .rw[R] at F;obtain⟨rfl,rfl⟩:=b8 (aq F);cases p with
   | nil=>cases m
   | cons s p =>
     cases s with
     | AR k off=>cases m
     | idx i size =>
       obtain⟨R6,R7⟩:=ak m;have J:=cG R6;obtain⟨x,G,Rg⟩:=bo R7;obtain⟨x',Nn,R8⟩:=bo S;obtain rfl:x=x':=aq (G.symm.trans Nn);obtain⟨z,hq,K⟩:=bind_some R8;cases hz:toS e z with
       | none=>rw[hz] at K;cases K
       | some y =>
         rw[hz] at K;obtain rfl:=aq K;obtain⟨h0,PA⟩:=lD G;have Q:=h9 _ x PA;have R9:=Q.length;have hi:i.toNat<l.length:=(sE.1 PA).1;have Sa:(i.toNat+1)*e.size<=q*e.size:=lz _ (by omega);rw[p6] at Sa;have Rh:bw γ σ.mem w (.data e x) .cells ((f.toList.drop<|i.toNat*e.size).take e.size):=Q;obtain⟨k1,k2⟩:=nB Rh Rg;rw[R9] at k1;have T:f.toList.length=q*e.size:=by simpa using h8
         have M:b3 (.idx i size::p)=i.toNat*e.size+b3 p:=by simp only[b3,J]
         have C:b3 (.idx i size::p)+es.length<=f.toList.length:=by rw[M,r,T];omega
         have D:=cQ (P:=P) o (b3 (.idx i size::p)) tid fr es 0 f w h4 h5.th (by simpa using C) (λv hv=>hu.one v hv);rw[rq] at D;have E:(aZ f.toList (b3 (.idx i size::p)) es).toArray.size=f.size:=by have:=cf C;simpa using this
         have e1:=lh f.toList (i.toNat*e.size) (b3 p) e.size es (by rw[r];exact k1) (by rw[T];omega);obtain⟨m1,m2⟩:=h.ok.write hb X R h4 (cur':=(aZ f.toList (b3 (.idx i size::p)) es).toArray) (v:=.data (.slice e) (o5 (α:=e.den) l i y)) E Y
          (λw' cm G hg=>by
           show ca γ cm w' b { bx with val:=.data (.slice e) (o5 (α:=e.den) l i y) }
           unfold ca;simp only[g];refine .inr ⟨e,_,rfl,h2,.inr ⟨o,q,_,tid,fr,R,hg,h5.same E,A,?_,h7,by rw[E];exact h8,?_⟩⟩
           .exact iA (yZ CB) h6
           .have Sc:=wk hz (pe (Rh.ext G) Rg hq (hu.ext G) r);have:=xb (w:=w') (I:=γ.I) (l:=l) (n:=l.length) (cs:=f.toList) rfl (by rw[T];exact lz _ h6)
             (λj x hj=>bg.mono G.I G.cells (h9 j x hj)) hi Sc
            rw[e1,<-M] at this;exact this)
         exact⟨_,D,h.go m2 m1,m2⟩
theorem Hy{c:Nat->Option aS}:∀{t:Ty} {x:t.den} {cs:List Value},bg w γ.I t x cs->bw γ c w (Gw t x) .cells cs:=by
 intro t;induction t with
 | pair a b g f=>intro x cs h;obtain⟨i,j,e,k,l⟩:=h;exact⟨i,j,e,k,f l⟩
 | _=>intro x cs h;exact h
theorem uv{b:Nat->Option aS}{v:ax}{c:List Value}(h:bw γ b w v .cells c):bw γ b w (JE v) .cells c:=by
 cases v with
 | data t x=>exact Hy h
 | _=>exact h
theorem C1{bx:aS}(e:bx.buf=false)(c:JG bx.val=true):bx.row=none:=by
 unfold aS.row;rw[e];obtain⟨b,tid,f,h,i,g⟩:=bx;cases b with
 | data t x=>cases t<;>first|rfl|cases c
 | mix p q=>rfl
 | _=>cases c
theorem rJ(h:b6 B N γ σ a w){b y:Nat}{p:List rW}{n:Nat}{u:ax}{es:List Value}(x:(jE b y p n u σ).run=some aB)(L:bw γ σ.mem w u .cells es)
  (j:es.length=n) {g l:Nat} (z:γ.loc b=some (g,l)) :
  ∃w',(storeCells ⟨g,b3 p,none⟩ es).run P w=.ok () w'/\b6 B N γ aB a w'/\Ext B γ σ.mem w γ aB.mem w':=by
 unfold jE at x;split at x
 case h_2=>exact absurd x (by intro k;cases k)
 rename_i bx M;obtain⟨O,A⟩:=ak x;simp only[cA,fO] at O;obtain⟨⟨⟨⟨Q,IX⟩,C⟩,e⟩,D⟩:=O;obtain⟨E,R,F⟩:=bind_some A;obtain⟨m,G⟩:=ak F;obtain⟨c,hs,H⟩:=bind_some G;obtain⟨I,J⟩:=ak H;obtain rfl:=aq J;have o:es.length=b4 E:=j.trans (cG m).symm;have K:({ bx with val:=c }:aS).row=bx.row:=(C1 (bx:={ bx with val:=c }) e I).trans (C1 e D).symm;have i:=h.ok.boxes b bx M;unfold ca at i;rw[e] at i;obtain⟨S,T,f,tid,U,V,W,X,q,Y⟩:=i;rw[z] at V;obtain⟨rfl,rfl⟩:=b8 (aq V);obtain⟨k1,k2⟩:=nB (uv Y) R;have r:b3 p+es.length<=f.toList.length:=by rw[o];exact k1
 have s:=cQ (P:=P) g (b3 p) tid U es 0 f w W X (by simpa using r) (λv hv=>L.one v hv);rw[rq] at s;have t:(aZ f.toList (b3 p) es).toArray.size=f.size:=by have:=cf r;simpa using this
 obtain⟨m1,Z⟩:=h.ok.write M C z W (cur':=(aZ f.toList (b3 p) es).toArray) (v:=c) t K
  (λw' cm hx hg=>by
   show ca γ cm w' b { bx with val:=c }
   unfold ca;simp only[e];exact⟨g,l,_,tid,U,z,hg,X.same t,q,by simpa using pe (uv<|Y.ext hx) R hs (L.ext hx) o⟩)
 exact⟨_,s,h.go Z m1,Z⟩
theorem nD{g:TypeId}{b c n:Nat}{v:Value}{h:World}(i:(Go.sizeOf g).run P w=.ok n w)(j:v.cells.toList.length=n)(e:(storeCells ⟨b,c,none⟩ v.cells.toList).run P w=.ok () h) :
  (Instr.storeAt g (.pointer<|some ⟨b,c,none⟩) v).run P w=.ok () h:=by
 have f:v.cells.size=n:=by simpa using j
 simp only[Instr.storeAt,Instr.sureAddr,storeVar,Sem.run_bind,Sem.run_pure,Result.andThen_ok,i,f,ne_eq,not_true_eq_false,ug];exact e
theorem vA(s:df P cx){bf:List Nat}{O:TypeId}{x y:Operand}(h:b6 B N γ σ a w)(F:(gZ cx bf O (bG σ x) (bG σ y) σ).run=some aB) :
  ∃w' bc,(Instr.storeAt O (a.eval x)<|a.eval y).run P w=.ok () w'/\b6 B N bc aB a w'/\Ext B γ σ.mem w bc aB.mem w':=by
 have hv:=h.bG x;have R:=h.bG y;unfold gZ at F;split at F
 case h_2=>exact absurd F (by intro k;cases k)
 rename_i b S p hx;rw[hx] at hv;split at F
 case h_2=>exact absurd F (by intro k;cases k)
 rename_i bx hb;obtain⟨m,U⟩:=ak F;have m:=cG m;obtain⟨C,hn,D⟩:=bind_some U;obtain⟨V,W,X,o⟩:=aC hb m hv.2;obtain o:a.eval x=_:=by simpa using o
 rw[o];split at D
 .rename_i u z;obtain⟨A,c⟩:=ak D;have A:=fq A;have hD:=s.T _ _ A;cases Y:bJ bf 8000000&&JF u (bG σ y) with
  | true =>
    rw[Y] at c;have how:=(Ji.1 Y).2;have r:bw γ σ.mem w (bG σ y) .cells (a.eval y).cells.toList:=by
     refine R.fu (λu' e=>?_) (λe=>?_)
     .rw[e] at how;cases how
     .rw[e] at how;cases how
    have E:b4 (bG σ y)=u.size:=by
     unfold JF at how;split at how
     .rename_i e;rw[e];exact Hv how
     .rename_i e;rw[e];exact xg how
     .cases how
    have f:(a.eval y).cells.toList.length=u.size:=by rw[r.length,E]
    obtain⟨w',G,H,I⟩:=rJ (P:=P) h c r f X;exact⟨w',γ,nD (hD.sizeOf w) f G,H,I⟩
  | false =>
  rw[Y] at c;replace c:(match om σ u (bG σ y) with|some (y,σ)=>storeAt b S p (Hm u) (.data u y) σ|none=>.fail).run=some aB:=c;split at c
  .rename_i y0 aV hg;obtain⟨J,s1,s2,s3⟩:=iH h R hg;obtain⟨cs,Q,c2⟩:=s3;obtain Z:a.eval y=_:=by simpa using c2
   have K:(a.eval y).cells.toList=cs:=by rw[Z];exact lf Q
   obtain⟨j9,g1,g2,g3⟩:=s2.boxes b bx hb;have Sd:J.loc b=some (V,W):=by
    have Ri:j9.au=bx.au:=by
     unfold storeAt at c;split at c
     .rename_i TP L;rw[g1] at L;obtain rfl:=aq L;obtain⟨s,_⟩:=ak c;simp only[cA] at s;have:=cG s.1.1;omega
     .exact absurd c (by intro k;cases k)
    rw[(g3 Ri).1];exact X
   obtain⟨w',G,H,I⟩:=rI (P:=P) s1 c (u:=.data u y0) (es:=cs) Q (λC g=>by
    unfold Hm at g;split at g
    .rename_i t q;obtain rfl:=Ty.eq_of_beq g;exact Q.length
    .cases g) (λbx g i=>by
    unfold Hm at g;split at g
    .rename_i t q M;obtain rfl:=Ty.eq_of_beq g;cases t with
     | arr n e=>rw[aS.kk i M];exact aS.kk (bx:={ bx with val:=_ }) i rfl
     | _=>unfold aS.row;rw[i,M]
    .cases g) Sd
   refine⟨w',J,nD (hD.sizeOf w) ?_ ?_,H,s2.trans I⟩
   .rw[K];exact Q.length
   .rw[K];exact G
  .exact absurd c (by intro k;cases k)
 .obtain⟨A,c⟩:=ak D;simp only[cA] at A;obtain⟨Se,l⟩:=A;have key:∀{v:ax},nR cx O v=true->isRef v=true->b4 v=1/\(Go.sizeOf O).run P w=.ok 1 w:=by
   intro v j h2;unfold nR at j;split at j
   .cases h2
   .split at j
    .rename_i e A;exact⟨rfl,(s.T _ _ A).sizeOf w⟩
    .cases j
   .exact⟨rfl,(s.ml _ j).2.1 w⟩
   .exact⟨rfl,(s.ml _ j).2.1 w⟩
   .exact⟨rfl,(s.ml _ j).2.1 w⟩
   .cases j
  obtain⟨j,E⟩:=key Se l;have r:bw γ σ.mem w (bG σ y) .cells (a.eval y).cells.toList:=by
   refine R.fu (λu e=>?_) (λe=>?_)
   .rw[e] at l;cases l
   .rw[e] at l;cases l
  have f:(a.eval y).cells.toList.length=1:=by rw[r.length,j]
  obtain⟨w',G,H,I⟩:=rI (P:=P) h c r (λC g=>by
   simp only[wG,cA] at g;rcases g with g|g
   .rw[f,(key g.1 g.2).1]
   .rw[f];cases C<;>first|rfl|cases g) (λbx g i=>by
   simp only[wG,cA] at g;have e1:∀{v:ax} {bx:aS},(isRef v=true\/Gx v=true)->bx.buf=false->bx.val=v->bx.row=none:=by
    intro v bx j h2 h3;unfold aS.row;rw[h2,h3];cases v<;>first|rfl|(rcases j with j|j<;>cases j)
   rw[e1 (g.elim (λq=>.inl q.2) .inr) i rfl];exact e1 (bx:={ bx with val:=bG σ y }) (.inl l) i rfl) X
  exact⟨w',γ,nD E f G,H,I⟩
theorem kX(t:TypeId)(v:Value):(newVar t v).run P w=.ok ⟨w.heap.size,0,none⟩ (w.alloc<|.cells v.cells t):=by
 simp[newVar,newRow]
theorem pj{e:Nat->Option aS}{f:World}{b:Nat}{bx:aS}{c:Nat}:bw (aI γ b<|some (w.heap.size,c)) (bq e b bx) f (.ptr b bx.au []) .val [.pointer<|some ⟨w.heap.size,0,none⟩] :=
 ⟨⟨_,rfl,rfl⟩,bN (aJ _ _) rfl ⟨w.heap.size,c,by simp[aI],rfl⟩⟩
theorem C2(m:df P cx){c:TypeId}{g k:Nat}{t:Ty}(h:b6 B N γ σ a w)(n:k<N)(o:find cx.T c=some t)
  (p:(σ.aw (g+k) (.data t t.zero) 0 false λe σ=>.ret (σ.put k<|.ptr (g+k) e [])).run=some aB) :
  iz P B N γ σ a w (some k) (Instr.alloc c true<|.tuple #[]) aB:=by
 obtain⟨e,f,i⟩:=bK p;obtain rfl:=aq i;obtain⟨z,q,j⟩:=(m.T _ _ o).zero w;obtain⟨m1,l⟩:=h.ok.newVar (b:=g+k) (v:=.data t t.zero) (tid:=0) f (cs:=z.cells) c (.inl rfl) (by rw[j];exact ia w γ.I t);refine⟨.pointer<|some ⟨w.heap.size,0,none⟩,_,_,?_,h.step l m1 n pj,l⟩;simp only[Instr.alloc,Sem.run_bind,q,Result.andThen_ok,kX,Sem.run_pure]
theorem vB(n:df P cx){c:TypeId}{i k:Nat}(h:b6 B N γ σ a w)(o:k<N)(p:bJ cx.ml c=true)
  (q:(σ.aw (i+k) .undef 0 false λf σ=>.ret (σ.put k<|.ptr (i+k) f [])).run=some aB) :
  iz P B N γ σ a w (some k) (Instr.alloc c true<|.tuple #[]) aB:=by
 obtain⟨f,g,j⟩:=bK q;obtain rfl:=aq j;obtain⟨z,l,e⟩:=(n.ml _ p).2.2;have l:=l w;obtain⟨m1,m⟩:=h.ok.newVar (b:=i+k) (v:=.undef) (tid:=0) g (cs:=z.cells) c (.inl rfl) ⟨z,by cases z<;>first|rfl|(simp[Value.oneCell'] at e),e⟩;refine⟨.pointer<|some ⟨w.heap.size,0,none⟩,_,_,?_,h.step m m1 o pj,m⟩;simp only[Instr.alloc,Sem.run_bind,l,Result.andThen_ok,kX,Sem.run_pure]
theorem C3{b D:Nat}:∀{F:List jl} {j:Nat} {σ:St} {γ:Gh} {r:ax×St},aO B γ σ.mem w->(mkObj b D F j σ).run=some r ->
  ∃c,aO B c r.2.mem w/\Ext B γ σ.mem w c r.2.mem w/\r.2.slots=σ.slots /\
   ∀bc cm w',Ext B c r.2.mem w bc cm w'->(∃bx x z,cm b=some bx/\D<=bx.au/\bc.loc b=some (x,z))->bw bc cm w' r.1 .cells (xa F):=by
 intro F;induction F with
 | nil=>intro j σ γ r h A;obtain rfl:=aq A;exact⟨γ,h,Ext.refl _ _ _ _,rfl,λ_ _ _ _ _=>rfl⟩
 | cons f r E =>
   intro j σ γ q h A;cases f with
   | bW t =>
     obtain⟨y,n,o⟩:=bind_some A;obtain rfl:=aq o;obtain⟨c,p,g,s,u⟩:=E h n;exact⟨c,p,g,s,λbc cm w' i l=>⟨_,_,rfl,ia _ _ t,u bc cm w' i l⟩⟩
   | one =>
     obtain⟨y,n,o⟩:=bind_some A;obtain rfl:=aq o;obtain⟨c,p,g,s,u⟩:=E h n;exact⟨c,p,g,s,λbc cm w' i l=>⟨[.pointer none],_,rfl,rfl,u bc cm w' i l⟩⟩
   | self =>
     obtain⟨y,n,o⟩:=bind_some A;obtain rfl:=aq o;obtain⟨c,p,g,s,u⟩:=E h n;refine⟨c,p,g,s,λbc cm w' i l=>⟨[.pointer none],_,rfl,?_,u bc cm w' i l⟩⟩;obtain⟨bx,x,z,K,L,M⟩:=l;exact⟨⟨_,rfl,rfl⟩,bx,K,L,λ_=>⟨x,z,M,.inl rfl⟩⟩
   | buf e G =>
     obtain⟨O,H⟩:=ak A;have I:0<e.size:=by simpa using O
     obtain⟨v,k,C⟩:=bK H;obtain⟨y,n,o⟩:=bind_some C;obtain rfl:=aq o;obtain⟨m1,J⟩:=h.r9 (b:=b*1000+999-j) (e:=e) (tid:=G) k I;obtain⟨c,p,g,s,u⟩:=E m1 n;refine⟨c,p,J.trans g,s,λbc cm w' i l=>⟨[.slice none 0 0],_,rfl,?_,u bc cm w' i l⟩⟩;refine bw.ext (g.trans i) (v:=.whole (b*1000+999-j) v) (m:=.cells) ?_;exact⟨⟨_,rfl,rfl⟩,bN (aJ _ _) rfl ⟨e,0,rfl,rfl,.inl ⟨by simp[aI],rfl⟩⟩⟩
   | map =>
     obtain⟨v,k,C⟩:=bK A;obtain⟨y,n,o⟩:=bind_some C;obtain rfl:=aq o;obtain⟨m1,J⟩:=h.JS (b:=b*1000+999-j) k;obtain⟨c,p,g,s,u⟩:=E m1 n;refine⟨c,p,J.trans g,s,λbc cm w' i l=>⟨[.map none],_,rfl,?_,u bc cm w' i l⟩⟩;refine bw.ext (g.trans i) (v:=.kM (b*1000+999-j) v) (m:=.cells) ?_;exact⟨⟨_,rfl,rfl⟩,bN (aJ _ _) rfl ⟨rfl,.inl ⟨by simp[aI],rfl⟩⟩⟩
theorem vC(u:df P cx){b:TypeId}{f k:Nat}{s:List jl}(h:b6 B N γ σ a w)(v:k<N)(x:find cx.nk b=some s)
  (y:((mkObj (f+k) (wa σ<|f+k) s 0 σ).bind λr=>r.2.aw (f+k) r.1 b false λau σ=>.ret (σ.put k<|.ptr (f+k) au [])).run=some aB) :
  iz P B N γ σ a w (some k) (Instr.alloc b true<|.tuple #[]) aB:=by
 obtain⟨r,A,C⟩:=bind_some y;obtain⟨g,i,j,D,E⟩:=C3 h.ok A;obtain⟨au,c,l⟩:=bK C;obtain rfl:=aq l;obtain⟨z,F,m⟩:=Hr (u.nk _ _ x) w;have n:wa σ (f+k)<=au:=by
  unfold wa;split
  .rename_i bx o;obtain⟨p,G,I,_⟩:=j.boxes _ bx o;have:=c p G;omega
  .exact jO _
 let bx:aS:={ val:=r.1,tid:=b,buf:=false,ro:=false,lk:=false,au }
 have t:lg B w (w.alloc<|.cells z.cells b):=(lg.refl _ _).alloc i.base _;have hx:=jG (L:=some (w.heap.size,0)) i (bx:=bx) c t (cr w _);have q:ca (aI g (f+k)<|some (w.heap.size,0)) (bq r.2.mem (f+k) bx) (w.alloc<|.cells z.cells b) (f+k) bx :=
  ⟨w.heap.size,0,z.cells,b,(0,0),by simp[aI],heap_alloc_new w _,qh _,.inr rfl,by
   rw[m];exact E _ _ _ hx ⟨bx,w.heap.size,0,aJ _ _,n,by simp[aI]⟩⟩
 have m1:=i.add c t (cr w _) (λH k e=>by obtain⟨rfl,rfl⟩:=b8 (aq e);exact⟨cU _,by simp⟩) q;refine⟨.pointer<|some ⟨w.heap.size,0,none⟩,_,_,?_,?_,j.trans hx⟩
 .simp only[Instr.alloc,Sem.run_bind,F,Result.andThen_ok,kX,Sem.run_pure]
 .have:=h.step (j.trans hx) m1 v (pj (bx:=bx));rw[<-D] at this;exact this
theorem u9{b j:Nat}{v:ax}{e:St}{r:ax×St}(c:(eC b [] j v e).run=some r):r=(v,e):=by
 cases v with
 | data t x=>cases t<;>first|(obtain rfl:=aq c;rfl)|cases c
 | _=>cases c
theorem td{b j:Nat}{f:jl}{q:List jl}{v:ax}{g:St}{r:ax×St}(h:(eC b (f::q) j v g).run=some r) :
  (∃x u y,v=.mix x u/\(eC b q (j+1) u g).run=some y/\r=(.mix x y.1,y.2)) \/
  (∃e i u,v=.mix .jt u/\0<e.size/\(g.aw (b*1000+999-j) (.data (.slice e) []) i true λk g=>(eC b q (j+1) u g).bind λx=>.ret (.mix (.whole (b*1000+999-j) k) x.1,x.2)).run=some r) \/
  (∃u,v=.mix .vv u/\(g.aw (b*1000+999-j) (.ju []) 0 true λk g=>(eC b q (j+1) u g).bind λx=>.ret (.mix (.kM (b*1000+999-j) k) x.1,x.2)).run=some r):=by
 cases v with
 | mix a u =>
   cases f with
   | bW t =>
     cases a with
     | data s z =>
       obtain⟨y,l,m⟩:=bind_some (show((eC b q (j+1) u g).bind λx=>.ret (.mix (.data s z) x.1,x.2)).run=some r from h);exact .inl ⟨_,u,y,rfl,l,(aq m).symm⟩
     | _=>cases h
   | one =>
     cases a with
     | cB =>
       obtain⟨y,l,m⟩:=bind_some (show((eC b q (j+1) u g).bind λx=>.ret (.mix .cB x.1,x.2)).run=some r from h);exact .inl ⟨_,u,y,rfl,l,(aq m).symm⟩
     | ptr c n p =>
       obtain⟨y,l,m⟩:=bind_some (show((eC b q (j+1) u g).bind λx=>.ret (.mix (.ptr c n p) x.1,x.2)).run=some r from h);exact .inl ⟨_,u,y,rfl,l,(aq m).symm⟩
     | _=>cases h
   | buf e i =>
     cases a with
     | jt =>
       obtain⟨A,o⟩:=ak h;exact .inr (.inl ⟨e,i,u,rfl,by simpa using A,o⟩)
     | whole c n =>
       obtain⟨y,l,m⟩:=bind_some (show((eC b q (j+1) u g).bind λx=>.ret (.mix (.whole c n) x.1,x.2)).run=some r from h);exact .inl ⟨_,u,y,rfl,l,(aq m).symm⟩
     | _=>cases h
   | self=>cases a<;>cases h
   | map =>
     cases a with
     | vv=>exact .inr (.inr ⟨u,rfl,h⟩)
     | _=>cases h
 | _=>cases f<;>cases h
theorem C4{x:Operand}(h:o7 x=true):x=.const (.slice none 0 0):=by
 unfold o7 at h;split at h
 .rfl
 .cases h
theorem y5(n:df P cx){C:TypeId}{x y:Operand}(E:o7 y=true)(h:b6 B N γ σ a w)(o:(sO cx C (bG σ x) σ).run=some aB) :
  ∃w' bc,(Instr.storeAt C (a.eval x)<|a.eval y).run P w=.ok () w'/\b6 B N bc aB a w'/\Ext B γ σ.mem w bc aB.mem w':=by
 obtain rfl:=C4 E;have hv:=h.bG x;unfold sO at o;split at o
 case h_2=>exact absurd o (by intro k;cases k)
 rename_i b q p e F G;rw[F] at hv;obtain⟨H,r⟩:=ak o;have s:0<e.size:=by simpa using H
 obtain⟨v,i,c⟩:=bK r;obtain⟨m1,D⟩:=h.ok.r9 (b:=b*1000+990) (e:=e) (tid:=0) i s;have I:=h.go D m1;have j:bw (aI γ (b*1000+990) none) (bq σ.mem (b*1000+990) { val:=.data (.slice e) ([]:List e.den),tid:=0,buf:=true,ro:=false,lk:=false,au:=v }) w (.whole (b*1000+990) v) .cells [.slice none 0 0] :=
  ⟨⟨_,rfl,rfl⟩,bN (aJ _ _) rfl ⟨e,0,rfl,rfl,.inl ⟨by simp[aI],rfl⟩⟩⟩
 have l:b≠b*1000+990:=by omega
 obtain⟨m,t,g⟩:∃m,σ.mem b=some m/\m.au=q:=by
  unfold jE at c;split at c
  case h_2=>exact absurd c (by intro k;cases k)
  rename_i m t;obtain⟨n,_⟩:=ak c;simp only[cA] at n;refine⟨m,?_,cG n.1.1.1.1⟩;rw[<-t];exact(az _ l).symm
 obtain⟨u,z,J,f⟩:=aC t g hv.2;obtain f:a.eval x=_:=by simpa using f
 rw[f];have A:(aI γ (b*1000+990) none).loc b=some (u,z):=by
  show(if b=b*1000+990 then none else γ.loc b)=_
  rw[bp l];exact J
 obtain⟨w',K,L,M⟩:=rJ (P:=P) I c j rfl A;exact⟨w',_,nD ((n.T _ _ G).sizeOf w) rfl K,L,D.trans M⟩
theorem J1{c:Nat->Option aS}{v:ax}(g:bw γ c w v .cells [.slice none 0 0]):∀{t:Ty} {k:Nat} {e:Ty},lB t k=some (.slice e)->bw γ c w (NB t k v) .cells (cS t):=by
 intro t;induction t with
 | pair a b i f =>
   intro k e h;cases k with
   | zero =>
     obtain rfl:=aq (show some a=some (.slice e) from h);exact⟨[.slice none 0 0],cS b,rfl,g,uv (v:=.data b b.zero) (ia w γ.I b)⟩
   | succ k=>exact⟨cS a,cS b,rfl,ia w γ.I a,f h⟩
 | _=>intro k e h;cases k<;>cases h
theorem qk{e:List Nat}{d:Option Nat}{b:List (Nat×Operand)}{c k:Nat}(h:zeroAt e d b=some (c,k)):d=some c/\b=[]:=by
 unfold zeroAt at h;split at h
 .split at h
  .obtain⟨rfl,_⟩:=b8 (aq h);exact⟨rfl,rfl⟩
  .cases h
 .cases h
theorem vD(r:df P cx){c:TypeId}{f k:Nat}{A:List Nat}{t:Ty}(h:b6 B N γ σ a w)(s:k<N)(u:find cx.T c=some t)
  (m:(mC f A k t σ).run=some aB):iz P B N γ σ a w (some k) (Instr.alloc c true<|.tuple #[]) aB:=by
 unfold mC at m;split at m
 .rename_i e _;obtain⟨C,n⟩:=ak m;have o:0<e.size:=by simpa using C
  obtain⟨v,j,p⟩:=bK n;obtain⟨m1,x⟩:=h.ok.r9 (b:=(f+k)*1000+999) (e:=e) (tid:=0) j o;obtain⟨D,g,q⟩:=bK p;obtain rfl:=aq q;obtain⟨i,z,E,J,F,G⟩:=(r.T _ _ u).info;have H:(zeroValue c).run P w=.ok z w:=by simp[zeroValue,typeInfo,E,F]
  have l:bw (aI γ ((f+k)*1000+999) none) (bq σ.mem ((f+k)*1000+999) { val:=.data (.slice e) ([]:List e.den),tid:=0,buf:=true,ro:=false,lk:=false,au:=v }) w (.whole ((f+k)*1000+999) v) .cells z.cells.toList:=by
   rw[G];exact⟨⟨_,rfl,rfl⟩,bN (aJ _ _) rfl ⟨e,0,rfl,rfl,.inl ⟨by simp[aI],rfl⟩⟩⟩
  obtain⟨I,y⟩:=m1.newVar (b:=f+k) (v:=.whole ((f+k)*1000+999) v) (tid:=0) g (cs:=z.cells) c (.inl rfl) l;refine⟨.pointer<|some ⟨w.heap.size,0,none⟩,_,_,?_,h.step (x.trans y) I s pj,x.trans y⟩;simp only[Instr.alloc,Sem.run_bind,H,Result.andThen_ok,kX,Sem.run_pure]
 .exact C2 r h s u m
theorem y6{b:Nat}:∀{G:List jl} {j:Nat} {v:ax} {σ:St} {γ:Gh} {r:ax×St} {cs:List Value},aO B γ σ.mem w->bw γ σ.mem w v .cells cs->(eC b G j v σ).run=some r ->
  ∃c,aO B c r.2.mem w/\Ext B γ σ.mem w c r.2.mem w/\r.2.slots=σ.slots/\bw c r.2.mem w r.1 .cells cs:=by
 intro G;induction G with
 | nil =>
   intro j v σ γ r cs h o H;obtain rfl:=u9 H;exact⟨γ,h,Ext.refl _ _ _ _,rfl,o⟩
 | cons f q I =>
   intro j v σ γ r cs h o H;rcases td H with ⟨x,u,y,rfl,p,rfl⟩|⟨e,J,u,rfl,L,l⟩|⟨u,rfl,l⟩
   rotate_right
   .obtain⟨k,g,n⟩:=bK l;obtain⟨y,p,K⟩:=bind_some n;obtain rfl:=aq K;obtain⟨s,t,rfl,z,A⟩:=o;obtain⟨m1,C⟩:=h.JS (b:=b*1000+999-j) g;obtain⟨c,D,i,E,F⟩:=I m1 (A.ext C) p;obtain rfl:s=[.map none]:=z;refine⟨c,D,C.trans i,E,[.map none],t,rfl,?_,F⟩;refine bw.ext i (v:=.kM (b*1000+999-j) k) (m:=.cells) ?_;exact⟨⟨_,rfl,rfl⟩,bN (aJ _ _) rfl ⟨rfl,.inl ⟨by simp[aI],rfl⟩⟩⟩
   .obtain⟨s,t,rfl,z,A⟩:=o;obtain⟨c,D,i,E,F⟩:=I h A p;exact⟨c,D,i,E,s,t,rfl,z.ext i,F⟩
   .obtain⟨k,g,n⟩:=bK l;obtain⟨y,p,K⟩:=bind_some n;obtain rfl:=aq K;obtain⟨s,t,rfl,z,A⟩:=o;obtain⟨m1,C⟩:=h.r9 (b:=b*1000+999-j) (e:=e) (tid:=J) g L;obtain⟨c,D,i,E,F⟩:=I m1 (A.ext C) p;obtain rfl:s=[.slice none 0 0]:=z;refine⟨c,D,C.trans i,E,[.slice none 0 0],t,rfl,?_,F⟩;refine bw.ext i (v:=.whole (b*1000+999-j) k) (m:=.cells) ?_;exact⟨⟨_,rfl,rfl⟩,bN (aJ _ _) rfl ⟨e,0,rfl,rfl,.inl ⟨by simp[aI],rfl⟩⟩⟩
theorem y7{c:TypeId}{i k:Nat}{x:Operand}{n:List jl}(h:b6 B N γ σ a w)(o:k<N)(p:bG σ x≠.undef)(q:∀u,bG σ x≠.pG u)
  (s:((eC (i+k) n 0 (bG σ x) σ).bind λr=>r.2.aw (i+k) r.1 c false λf σ=>.ret (σ.put k<|.ptr (i+k) f [])).run=some aB) :
  iz P B N γ σ a w (some k) (Instr.box c<|a.eval x) aB:=by
 obtain⟨r,t,y⟩:=bind_some s;obtain⟨z,A,l,C,D⟩:=y6 h.ok ((h.bG x).fu q λe=>absurd e p) t;obtain⟨f,g,j⟩:=bK y;obtain rfl:=aq j;obtain⟨m1,m⟩:=A.newVar (b:=i+k) (v:=r.1) (tid:=c) g (cs:=(a.eval x).cells) c (.inr rfl) D;refine⟨.pointer<|some ⟨w.heap.size,0,none⟩,_,_,?_,?_,l.trans m⟩
 .simp only[Instr.box,Sem.run_bind,kX,Result.andThen_ok,Sem.run_pure]
 .have:=h.step (l.trans m) m1 o pj;rw[<-C] at this;exact this
theorem Hz{c:TypeId}{i k:Nat}{x:Operand}(h:b6 B N γ σ a w)(m:k<N)(n:bG σ x≠.undef)(o:∀u,bG σ x≠.pG u)
  (p:(σ.aw (i+k) (bG σ x) 0 false λf σ=>.ret (σ.put k<|.ptr (i+k) f [])).run=some aB) :
  iz P B N γ σ a w (some k) (Instr.box c<|a.eval x) aB:=by
 obtain⟨f,g,j⟩:=bK p;obtain rfl:=aq j;obtain⟨m1,l⟩:=h.ok.newVar (b:=i+k) (v:=bG σ x) (tid:=0) g (cs:=(a.eval x).cells) c (.inl rfl) ((h.bG x).fu o λe=>absurd e n);refine⟨.pointer<|some ⟨w.heap.size,0,none⟩,_,_,?_,h.step l m1 m pj,l⟩;simp only[Instr.box,Sem.run_bind,kX,Result.andThen_ok,Sem.run_pure]
theorem L3{b:Nat->Option aS}:∀{u v:ax} {k:Nat} {e:List Value},bw γ b w u .many e->nth u k=some v->∃x,e[k]?=some x/\bw γ b w v .val [x]:=by
 intro u;induction u with
 | mix p q i g =>
   intro v k e h f;obtain⟨c,r,rfl,j,l⟩:=h;cases k with
   | zero=>obtain rfl:=aq f;exact⟨c,rfl,j⟩
   | succ k=>obtain⟨x,m,n⟩:=g l f;exact⟨x,by simpa using m,n⟩
 | _=>intro v k e h f;exact absurd f (by intro k;cases k)
theorem y8{x:Operand}{k:Nat}{e v:ax}(h:b6 B N γ σ a w)(f:∀k,d=some k->k<N)(g:bG σ x=.pG e)(i:nth e k=some v) :
  iz P B N γ σ a w d (Instr.extract (a.eval x) k) (σ.aA d v):=by
 have hv:=h.bG x;rw[g] at hv;obtain⟨b,c,j⟩:=hv;obtain c:a.eval x=_:=by simpa using c
 obtain⟨y,l,m⟩:=L3 j i;refine bd h f (x:=y) ?_ m;rw[c];have:b[k]?=some y:=by simpa using l
 simp only[Instr.extract,this,Sem.run_pure]
theorem xj:∀{ops:List Operand} {cs:List (Nat×Nat)},b6 B N γ σ a w->qa (ops.map<|bG σ)=some cs->cs.length=ops.length /\
  ∀(i:Nat) b au,cs[i]?=some (b,au)->gC σ.mem b au λ_=>∃f g,γ.loc b=some (f,g)/\(ops.map a.eval)[i]?=some (.pointer<|some ⟨f,0,none⟩):=by
 intro ops;induction ops with
 | nil=>intro cs h c;obtain rfl:=aq c;exact⟨rfl,λi b au k=>by cases k⟩
 | cons o r q =>
   intro cs h c;have n:=h.bG o;simp only[fY] at c;unfold qa at c;split at c
   .rename_i j;cases j
   .rename_i E p F j;injection j with s t
    subst t;rw[s] at n;cases l:qa (r.map<|bG σ) with
    | none=>rw[l] at c;cases c
    | some u =>
      rw[l] at c;obtain rfl:=aq c;obtain⟨v,x⟩:=q h l;refine⟨by simp[v],λi b au k=>?_⟩;cases i with
      | zero =>
        obtain⟨rfl,rfl⟩:=b8 (aq k);obtain⟨y,z,A,C⟩:=n.2;refine⟨y,z,A,λe=>?_⟩;obtain⟨f,g,D,m⟩:=C e;obtain m:a.eval o=_:=by simpa using m
        exact⟨f,g,D,by simp[m,b3]⟩
      | succ i =>
        have:=x i b au (by simpa using k);simpa using this
   .cases c
theorem xk{f:Nat}{c:Array Operand}{n:List (Nat×Nat)}(h:b6 B N γ σ a w)(o:∀k,d=some k->k<N)(g:qa (c.toList.map<|bG σ)=some n) :
  Nat.blt f 10000000=true->iz P B N γ σ a w d (Instr.makeFunc (.func f) #[] (c.map a.eval)) (σ.aA d<|.fn f n):=by
 intro p;obtain⟨q,r⟩:=xj h g;refine bd h o (x:=.func (.func f) #[] (c.map a.eval)) rfl ?_;refine⟨c.map a.eval,by unfold oj;rw[p];rfl,by rw[q];simp,λi b j s=>?_⟩;obtain⟨t,u,v,y⟩:=r i b j s;refine⟨t,u,v,λe=>?_⟩;obtain⟨l,m,z,A⟩:=y e;exact⟨l,m,z,by simpa using A⟩
theorem vE{f:Nat}{x:Operand}{m:List (Nat×Nat)}(h:b6 B N γ σ a w)(n:∀k,d=some k->k<N)(c:qa [bG σ x]=some m)(o:Nat.blt f 10000000=true) :
  iz P B N γ σ a w d (Instr.makeFunc (.func f) #[a.eval x] #[]) (σ.aA d<|.fn (f+10000000) m):=by
 obtain⟨p,q⟩:=xj (ops:=[x]) h c;refine bd h n (x:=.func (.func f) #[a.eval x] #[]) rfl ?_;have r:Nat.blt (f+10000000) 10000000=false:=by
  cases s:Nat.blt (f+10000000) 10000000 with
  | false=>rfl
  | true=>have:=rT s;omega
 refine⟨#[a.eval x],by unfold oj;rw[r,show(f+10000000) % 10000000=f from by have:=rT o;omega];rfl,by simpa using p.symm,λi b g t=>?_⟩;obtain⟨u,v,y,z⟩:=q i b g t;refine⟨u,v,y,λe=>?_⟩;obtain⟨j,l,A,C⟩:=z e;exact⟨j,l,A,by simpa using C⟩
end
end Go.Ge
namespace Go.Ge
open RowKit
def EJ(e:Gh)(c:Nat):Gh:={ e with I:=λb o=>e.I b o\/b=c }
theorem aO.NN{B:Own}{j:Gh}{e:Nat->Option aS}{w:World}(h:aO B j e w)(n:Array Value)(p:TypeId) :
  aO B (EJ j w.heap.size) e (w.alloc<|.cells n p)/\Ext B j e w (EJ j w.heap.size) e (w.alloc<|.cells n p):=by
 have hx:Ext B j e w (EJ j w.heap.size) e (w.alloc<|.cells n p) :=
  { below:=(lg.refl _ _).alloc h.base _
    I:=λ_ _ x=>.inl x
    mo:=λc o x=>by
     rcases x with x|x
     .exact .inl x
     .exact .inr (.inl<|by rw[x];exact h.base)
    cells:=λc o x=>dU (cr w _ c<|h.lX c o x)
    boxes:=λb m hb=>⟨m,hb,cU _,λ_=>⟨rfl,rfl,rfl⟩⟩ }
 refine⟨?_,hx⟩;have g:(w.alloc<|.cells n p).heap.size=w.heap.size+1:=by simp
 exact
  { bD:=h.sX hx
    base:=by rw[g];exact Nat.le_succ_of_le h.base
    boxes:=λb m hb=>(h.boxes b m hb).keep hx rfl λc k l=>cr w _ c (h.fresh b c k (by rw[hb];simp) l).2
    inj:=h.inj
    fresh:=λb c k hb l=>by have:=h.fresh b c k hb l;exact⟨this.1,by rw[g];omega⟩
    lX:=λc i f=>by
     rw[g];rcases f with f|f
     .have:=h.lX c i f;omega
     .omega
    sep:=λb m c k i hb l f=>by
     rcases f with f|f
     .exact h.sep b m c k i hb l f
     .have:=(h.fresh b c k (by rw[hb];simp) l).2;omega }
theorem xl(b:Nat):∀(l:List Value) (k:Nat) (cells:Array Value),b+k+l.length<=cells.size ->
  (l.zipIdx k).foldl (λcs (x:Value×Nat)=>cs.setIfInBounds (b+x.2) x.1) cells=(aZ cells.toList (b+k) l).toArray
 | [],k,cells,h=>by simp[aZ]
 | v::r,k,cells,h=>by
   simp only[List.zipIdx_cons,List.foldl_cons];rw[xl b r (k+1) _<|by simp at h⊢;omega];have e:=list_seg_step cells.toList (b+k) v r (by simp at h⊢;omega)
   congr 1
   simpa [aZ,M4,ud] using e
theorem oC{c:Nat->Option (Nat×Nat)}{cells:Array Value}{i e b:Nat}{v:Value}{f:List (Nat×Value)}(j:c i=some (e,b))(h:v.cells.toList.length=b)
  (k:e+b<=cells.size):Instr.fill c cells ((i,v)::f)=Instr.fill c (aZ cells.toList e v.cells.toList).toArray f:=by
 have g:v.cells.size=b:=by simpa using h
 have l:(v.cells.size≠b||e+v.cells.size > cells.size)=false:=by
  simp only[wD,Jd];constructor
  .simp[g]
  .omega
 simp only[Instr.fill,j];rw[l];simp only[Et,ug]
 congr 1
 rw[<-Array.foldl_toList,Array.toList_zipIdx];have:=xl e v.cells.toList 0 cells (by rw[h];omega);simpa using this
theorem EK{w:World}{I:Nat->Nat->Prop}{u:Ty}{y:u.den}{f:List Value}(p:bg w I u y f):∀{t:Ty} {x g:t.den} {cs:List Value} {k o:Nat},
  bg w I t x cs->fP t k=some o->wO t x k u y=some g->bg w I t g (aZ cs o f)/\o+f.length<=cs.length:=by
 intro t;induction t with
 | pair a b A i =>
   intro x g cs k o h c e;obtain⟨j,r,rfl,l,s⟩:=h;cases k with
   | zero =>
     simp only[fP,j7] at c;subst c;simp only[wO] at e;split at e
     .rename_i G C;obtain⟨q,D⟩:=Ty.fZ C;subst q;subst D;obtain rfl:=aq e;have m:f.length=j.length:=by rw[p.length,l.length]
      refine⟨⟨f,r,?_,p,s⟩,by rw[l9];omega⟩;simp only[aZ,CD,rU,kL];rw[m,rV]
     .cases e
   | succ k =>
     simp only[fP] at c;cases n:fP b k with
     | none=>rw[n] at c;cases c
     | some v =>
       rw[n] at c;simp only[sI,j7] at c;simp only[wO] at e;split at e
       .rename_i z E;obtain rfl:=aq e;obtain⟨F,H⟩:=i s n E;have m:=l.length;refine⟨⟨j,aZ r v f,?_,l,F⟩,by rw[l9];omega⟩;subst c;rw[<-m];simp only[aZ];first
         | (rw[LS,mj,mj,ud,<-oZ,rV];simp[mj];done)
         | (rw[Gr v j.length,LS,mj,mj,ud,<-oZ,rV];simp[mj])
       .cases e
 | _=>intro x g cs k o h c;cases k<;>simp[fP] at c
theorem vF:∀{t:Ty} {k:Nat} {u:Ty},lB t k=some u->∃o,fP t k=some o:=by
 intro t;induction t with
 | pair a b e c =>
   intro k u h;cases k with
   | zero=>exact⟨0,rfl⟩
   | succ k =>
     obtain⟨o,f⟩:=c (show lB b k=some u from h);simp only[fP,f];exact⟨_,rfl⟩
 | _=>intro k u h;cases k<;>cases h
section
variable {P:Program} {B:Own} {N:Nat} {γ:Gh} {σ aB:St} {a:Act} {w:World} {d:Option Nat} {cx:Ctx}
theorem uw{place:Nat->Option (Nat×Nat)}{t:Ty}(m:∀k u o,lB t k=some u->fP t k=some o->place k=some (o,u.size)) :
  ∀{parts:List (Nat×Operand)} {x l:t.den} {cells:Array Value} {σ aB:St} {γ:Gh},b6 B N γ σ a w->bg w γ.I t x cells.toList->en σ t x parts=some (l,aB) ->
   ∃b bc,Instr.fill place cells (parts.map λp=>(p.1,a.eval p.2))=some b/\b6 B N bc aB a w/\Ext B γ σ.mem w bc aB.mem w/\bg w bc.I t l b.toList:=by
 intro parts;induction parts with
 | nil =>
   intro x l cells σ aB γ h n c;obtain⟨rfl,rfl⟩:=b8 (aq c);exact⟨cells,γ,rfl,h,Ext.refl _ _ _ _,n⟩
 | cons p r E =>
   obtain⟨k,o⟩:=p;intro x l cells σ aB γ h n c;simp only[en] at c;split at c
   .rename_i u A;split at c
    .rename_i y aV F;split at c
     .rename_i R q;obtain⟨G,H,s,C,v,J⟩:=iH h (h.bG o) F;obtain f:a.eval o=_:=by simpa using J
      have g:(a.eval o).cells.toList=C:=by rw[f];exact lf v
      obtain⟨i,e⟩:=vF A;obtain⟨K,D⟩:=EK v (bg.mono s.I s.cells n) e q;have j:=v.length;obtain⟨b,z,L,M,O,Q⟩:=E (cells:=(aZ cells.toList i C).toArray) H (by simpa using K) c;refine⟨b,z,?_,M,s.trans O,Q⟩;simp only[fY];rw[oC (m k u i A e) (by rw[g];exact j)<|by rw[j] at D;simpa using D,g];exact L
     .cases c
    .cases c
   .cases c
theorem pK{n:Nat}{e:Ty}{place:Nat->Option (Nat×Nat)}(u:∀k,place k=some (k*e.size,e.size)) :
  ∀{parts:List (Nat×Operand)} {l s:List e.den} {cells:Array Value} {σ aB:St} {γ:Gh},b6 B N γ σ a w->bg w γ.I (.arr n e) l cells.toList->du σ e l parts=some (s,aB) ->
   ∃b bc,Instr.fill place cells (parts.map λp=>(p.1,a.eval p.2))=some b/\b6 B N bc aB a w/\Ext B γ σ.mem w bc aB.mem w/\bg w bc.I (.arr n e) s b.toList:=by
 intro parts;induction parts with
 | nil =>
   intro l s cells σ aB γ h v c;obtain⟨rfl,rfl⟩:=b8 (aq c);exact⟨cells,γ,rfl,h,Ext.refl _ _ _ _,v⟩
 | cons p r J =>
   obtain⟨k,o⟩:=p;intro l s cells σ aB γ h v c;simp only[du] at c;split at c
   .rename_i y aV K;cases f:Nat.blt k l.length with
    | false=>rw[f] at c;cases c
    | true =>
      rw[f] at c;simp only[cd] at c;have F:k<l.length:=by simpa using f
      obtain⟨x,L,z,t,A,M⟩:=iH h (h.bG o) K;obtain j:a.eval o=_:=by simpa using M
      have m:(a.eval o).cells.toList=t:=by rw[j];exact lf A
      obtain⟨G,C,O⟩:=bg.mono z.I z.cells v;have D:l.length=n:=G;have g:=A.length;have H:(k+1)*e.size<=n*e.size:=lz _ (by omega);rw[p6] at H;have i:k*e.size+t.length<=cells.toList.length:=by rw[g,C];exact H
      have q:bg w x.I (.arr n e) (l.set k y) (aZ cells.toList (k*e.size) t) :=
       ⟨(@List.length_set _ l _ _).trans G,by rw[cf i];exact C,xb D (by rw[C];exact cU _) O (by omega) A⟩
      obtain⟨b,E,Q,R,S,T⟩:=J (cells:=(aZ cells.toList (k*e.size) t).toArray) L (by simpa using q) c;refine⟨b,E,?_,R,z.trans S,T⟩;simp only[fY];rw[oC (u k) (by rw[m];exact g)<|by rw[g] at i;simpa using i,m];exact Q
   .cases c
theorem ka.places{t:Ty}:∀{off:Nat} {e:List Field},ka P t off e->∃c:List (Nat×Nat),e.mapM (λf=>(P.info? f.type).map λi=>(f.offset,i.size))=some c /\
  ∀k u o,lB t k=some u->fP t k=some o->c[k]?=some (off+o,u.size):=by
 induction t with
 | pair a b n l =>
   intro off e h;obtain⟨f,r,rfl,p,E,q,F,s⟩:=h.cons;obtain⟨v,x,y⟩:=l s;obtain⟨i,z,A,C,_⟩:=q.info;refine⟨(f.offset,i.size)::v,by simp[A,x],λk u o j g=>?_⟩;cases k with
   | zero =>
     simp only[lB,fP,j7] at j g;subst j g;simp[p,C]
   | succ k =>
     simp only[lB,fP] at j g;cases m:fP b k with
     | none=>rw[m] at g;cases g
     | some D =>
       rw[m] at g;simp only[sI,j7] at g;have:=y k u D j m;rw[Jc,this]
       congr 2;omega
 | unit =>
   intro off e h;cases e with
   | nil=>exact⟨[],rfl,λk u o j=>by cases k<;>cases j⟩
   | cons f r=>simp[ka,ed] at h
 | _=>intro off e h;cases e<;>simp[ka,ed] at h
theorem va{j:Nat->Option aS}:∀{c:List jl} {v:ax},jF c=some v->bw γ j w v .cells (xa c):=by
 intro c;induction c with
 | nil=>intro v h;obtain rfl:=aq h;rfl
 | cons f r g =>
   intro v h;cases f with
   | bW t =>
     simp only[jF] at h;split at h
     .rename_i u b;obtain rfl:=aq h;exact⟨_,_,rfl,ia _ _ t,g b⟩
     .cases h
   | buf e i =>
     simp only[jF] at h;split at h
     .rename_i u b;obtain rfl:=aq h;exact⟨[.slice none 0 0],_,rfl,rfl,g b⟩
     .cases h
   | one =>
     simp only[jF] at h;split at h
     .rename_i u b;obtain rfl:=aq h;exact⟨[.pointer none],_,rfl,rfl,g b⟩
     .cases h
   | self=>cases h
   | map =>
     simp only[jF] at h;split at h
     .rename_i u b;obtain rfl:=aq h;exact⟨[.map none],_,rfl,rfl,g b⟩
     .cases h
theorem ql{place:Nat->Option (Nat×Nat)}{K:List jl}(A:∀k o f,o9 K k=some o->K[k]?=some f->place k=some (o,f.size))(h:b6 B N γ σ a w) :
  ∀{parts:List (Nat×Operand)} {v G:ax} {cells:Array Value},bw γ σ.mem w v .cells cells.toList->gP σ K v parts=some G ->
   ∃b,Instr.fill place cells (parts.map λp=>(p.1,a.eval p.2))=some b/\bw γ σ.mem w G .cells b.toList:=by
 intro parts;induction parts with
 | nil=>intro v G cells n c;obtain rfl:=aq c;exact⟨cells,rfl,n⟩
 | cons p r R =>
   obtain⟨k,x⟩:=p;intro v G cells n c;simp only[gP] at c;split at c
   case h_3=>cases c
   case h_2 =>
    rename_i o z H f _ C L j;have g:(Nat.beq o H&&Nat.beq 1 f.size&&Nat.beq (b4 z) 1&&ND (bG σ x))=true:=by
     cases g:(Nat.beq o H&&Nat.beq 1 f.size&&Nat.beq (b4 z) 1&&ND (bG σ x)) with
     | false=>rw[g] at c;exact absurd c (by simp)
     | true=>rfl
    rw[g] at c;simp only[cd] at c;simp only[cA] at g;obtain⟨⟨⟨S,T⟩,U⟩,q⟩:=g;obtain rfl:=cG S;have i:=cG T;have s:=cG U;split at c
    case h_2=>cases c
    rename_i V l;have hx:bw γ σ.mem w (bG σ x) .cells (a.eval x).cells.toList:=(h.bG x).fu (λu e=>by rw[e] at q;cases q) (λe=>by rw[e] at q;cases q);have D:(a.eval x).cells.toList.length=1:=by
     rw[hx.length];cases W:bG σ x with
     | ptr _ _ _=>rfl
     | whole _ _=>rfl
     | _=>rw[W] at q;cases q
    obtain⟨J,_⟩:=qX n C;have m:o+1<=cells.toList.length:=by rw[s] at J;exact J
    have M:=r8 (f:=λ_=>.ret (bG σ x)) n C (λv s=>by obtain rfl:=aq s;exact hx) l (by rw[D,s]);obtain⟨b,O,Q⟩:=R (cells:=(aZ cells.toList o (a.eval x).cells.toList).toArray) (by simpa using M) c;refine⟨b,?_,Q⟩;simp only[fY];rw[oC (A k o f L j) (by rw[D];exact i)<|by rw[<-i];simpa using m];exact O
   rename_i o t X H f C L j;cases g:Nat.beq o H&&Nat.beq t.size f.size with
   | false=>rw[g] at c;cases c
   | true =>
     rw[g] at c;simp only[cd] at c;simp only[cA] at g;obtain rfl:=cG g.1;have i:=cG g.2;split at c
     case h_2=>cases c
     rename_i y E;split at c
     case h_2=>cases c
     rename_i V l;have hx:bw γ σ.mem w (bG σ x) .cells (a.eval x).cells.toList:=(h.bG x).fu (λu e=>by rw[e] at E;cases E) (λe=>by rw[e] at E;cases E);have F:bg w γ.I t y (a.eval x).cells.toList:=wk E hx;obtain⟨J,_⟩:=qX n C;have m:o+t.size<=cells.toList.length:=J;have D:(a.eval x).cells.toList.length=t.size:=F.length;have M:=r8 (f:=λ_=>.ret (.data t y)) n C (λz s=>by obtain rfl:=aq s;exact F) l D;obtain⟨b,O,Q⟩:=R (cells:=(aZ cells.toList o (a.eval x).cells.toList).toArray) (by simpa using M) c;refine⟨b,?_,Q⟩;simp only[fY];rw[oC (A k o f L j) (by rw[D];exact i)<|by rw[<-i];simpa using m];exact O
theorem vG(r:df P cx){t:TypeId}{g:List jl}{j p q:ax}{b:Array (Nat×Operand)}(h:b6 B N γ σ a w)(s:∀k,d=some k->k<N)(u:find cx.nk t=some g)
  (l:jF g=some j) (y:gP σ g j b.toList=some (.mix p q)) :
  iz P B N γ σ a w d (Instr.build t<|b.map λ(i,x)=>(i,a.eval x)) (σ.aA d<|.mix p q):=by
 have n:=r.nk _ _ u;simp only[y4,cA] at n;obtain⟨m,A⟩:=n;obtain⟨i,z,C,T,D,E⟩:=fR A;split at m
 case h_2=>cases m
 rename_i U F;obtain⟨G,H,I⟩:=sZ m;obtain⟨c,J,K,L,M,O,Q⟩:=ql (place:=λk=>G.toArray[k]?) (λk o f R S=>by have:=I k o f R S;simpa using this) h
  (v:=j) (cells:=z.cells) (by rw[E];exact va l) y
 have e:(Instr.build t<|b.map λ(i,x)=>(i,a.eval x)).run P w=.ok (.agg c) w:=by
  refine run_build w t _ _ ?_;unfold Program.built;simp only[C,F,D,H];simpa using J
 exact bd h s e ⟨K,L,by rw[<-M],O,Q⟩
theorem ux(q:df P cx){t:TypeId}{j:List jl}{l:ax}{u:Ty.unit.den}{c:Array (Nat×Operand)}(h:b6 B N γ σ a w)(r:∀k,d=some k->k<N)(s:find cx.nk t=some j)
  (m:jF j=some l) (y:gP σ j l c.toList=some (.data .unit u)) :
  iz P B N γ σ a w d (Instr.build t<|c.map λ(i,x)=>(i,a.eval x)) (σ.aA d<|.data .unit ()):=by
 have p:=q.nk _ _ s;simp only[y4,cA] at p;obtain⟨n,A⟩:=p;obtain⟨i,z,C,O,D,E⟩:=fR A;split at n
 case h_2=>cases n
 rename_i Q F;obtain⟨G,H,I⟩:=sZ n;obtain⟨b,J,K⟩:=ql (place:=λk=>G.toArray[k]?) (λk o f L M=>by have:=I k o f L M;simpa using this) h
  (v:=l) (cells:=z.cells) (by rw[E];exact va m) y
 have g:(Instr.build t<|c.map λ(i,x)=>(i,a.eval x)).run P w=.ok (.agg b) w:=by
  refine run_build w t _ _ ?_;unfold Program.built;simp only[C,F,D,H];simpa using J
 have e:b.toList=[]:=K;exact bd h r g ⟨[],rfl,by rw[show b=#[] from CJ e];rfl⟩
theorem sb(g:df P cx){t:TypeId}{u v:Ty}{b:Array (Nat×Operand)}{x:(Ty.pair u v).den}(h:b6 B N γ σ a w)(j:∀k,d=some k->k<N)(l:find cx.T t=some (.pair u v))
  (m:en σ (.pair u v) (Ty.pair u v).zero b.toList=some (x,aB)) :
  iz P B N γ σ a w d (Instr.build t<|b.map λ(i,x)=>(i,a.eval x)) (aB.aA d<|.data (.pair u v) x):=by
 have f:=g.T _ _ l;obtain⟨K,n,p,_⟩:=f.pair;obtain⟨q,r,s⟩:=p.places;obtain⟨i,z,y,L,A,C⟩:=f.info;obtain⟨c,bc,D,E,F,G⟩:=uw (place:=λk=>q.toArray[k]?) (λk u o H J=>by have:=s k u o H J;simpa using this) h
  (x:=(Ty.pair u v).zero) (cells:=z.cells) (by rw[C];exact ia w γ.I _) m
 have e:(Instr.build t<|b.map λ(i,x)=>(i,a.eval x)).run P w=.ok (.agg c) w:=by
  refine run_build w t _ _ ?_;unfold Program.built;simp only[y,n,A,r];simpa using D
 exact⟨_,_,bc,e,E.mP j ⟨_,G,rfl⟩,by cases d<;>exact F⟩
theorem xn(F:df P cx){t:TypeId}{u v:Ty}{c k n:Nat}(h:b6 B N γ σ a w)(G:n<N)(H:find cx.T t=some (.pair u v))(m:(mK c n (.pair u v) k σ).run=some aB) :
  iz P B N γ σ a w (some n) (Instr.build t #[]) aB:=by
 have D:=F.T _ _ H;obtain⟨S,I,J,_⟩:=D.pair;obtain⟨U,K,V⟩:=J.places;obtain⟨i,z,L,W,M,O⟩:=D.info;unfold mK at m;split at m
 case h_2=>exact absurd m (by intro k;cases k)
 rename_i e Q;obtain⟨R,o⟩:=ak m;have p:0<e.size:=by simpa using R
 obtain⟨f,g,q⟩:=bK o;obtain rfl:=aq q;obtain⟨m1,E⟩:=h.ok.r9 (b:=c+n) (e:=e) (tid:=0) g p;have j:(Instr.build t #[]).run P w=.ok (.agg z.cells) w:=by
  refine run_build w t #[] _ ?_;unfold Program.built;simp only[L,I,M,K];rfl
 have l:bw (aI γ (c+n) none) (bq σ.mem (c+n) { val:=.data (.slice e) ([]:List e.den),tid:=0,buf:=true,ro:=false,lk:=false,au:=f }) w (.whole (c+n) f) .cells [.slice none 0 0] :=
  ⟨⟨_,rfl,rfl⟩,bN (aJ _ _) rfl ⟨e,0,rfl,rfl,.inl ⟨by simp[aI],rfl⟩⟩⟩
 have r:=J1 l (t:=.pair u v) Q;refine⟨.agg z.cells,w,_,j,h.step E m1 G ?_,E⟩;rw[<-O] at r;cases k with
 | zero =>
   obtain⟨s,x,y,A,C⟩:=r;exact⟨s,x,by rw[<-y],A,C⟩
 | succ k =>
   obtain⟨s,x,y,A,C⟩:=r;exact⟨s,x,by rw[<-y],A,C⟩
theorem te(m:df P cx){t:TypeId}{n:Nat}{e:Ty}{b:Array (Nat×Operand)}{l:List e.den}(h:b6 B N γ σ a w)(o:∀k,d=some k->k<N)(p:find cx.T t=some (.arr n e))
  (q:du σ e (List.replicate n e.zero) b.toList=some (l,aB)) :
  iz P B N γ σ a w d (Instr.build t<|b.map λ(i,x)=>(i,a.eval x)) (aB.aA d<|.data (.arr n e) l):=by
 have g:=m.T _ _ p;obtain⟨r,s,u,J⟩:=g.arr;obtain⟨j,K,v,y,L,M⟩:=u.info;obtain⟨i,z,A,O,C,D⟩:=g.info;obtain⟨c,bc,E,F,G,H⟩:=pK (n:=n) (place:=λk=>some (k*j.size,j.size)) (λk=>by rw[y]) h
  (l:=List.replicate n e.zero) (cells:=z.cells) (by rw[D];exact ia w γ.I (.arr n e)) q
 have f:(Instr.build t<|b.map λ(i,x)=>(i,a.eval x)).run P w=.ok (.agg c) w:=by
  refine run_build w t _ _ ?_;unfold Program.built;simp only[A,s,C,v];simpa using E
 exact⟨_,_,bc,f,F.mP o ⟨_,H,rfl⟩,by cases d<;>exact G⟩
theorem mR{e:Ty}{z:Value}(h:z.cells.toList=cS e)(i:0<e.size)(n:Nat):(madeCells z.cells<|n*e.size).toList=cS (.arr n e):=by
 have c:z.cells.size=e.size:=by rw[<-dk e,<-h];simp
 apply Cw;intro j;have hlen:(cS<|.arr n e).length=n*e.size:=by rw[dk];rfl
 rcases ue j (n*e.size) with f|f
 .have l:(madeCells z.cells<|n*e.size).toList[j]?=some (z.cells[j % z.cells.size]!):=by simp[madeCells,f]
  rw[l];have hdiv:j / e.size<n:=by rw[Nb i];exact f
  have k:=de (cS e) n (j / e.size) hdiv;rw[dk] at k;have b:=sJ j i;have g:j / e.size*e.size+j % e.size=j:=by rw[Nat.mul_comm];exact Jt j e.size
  have m:(cS<|.arr n e)[j]?=(cS e)[j % e.size]?:=by
   conv=>rhs;rw[<-k]
   rw[kK,bH b,pT,g];rfl
  rw[m,<-h,c];have o:j % e.size<z.cells.size:=by omega
  simp[o]
 .rw[Hf<|by simp[madeCells];omega,Hf (by omega)]
theorem A8{w:World}{I:Nat->Nat->Prop}{e:Ty}{n:Nat}{l:List e.den}{b:Array Value}{t:TypeId}{f:Nat}{q:Nat×Nat}(h:bg w I (.arr n e) l b.toList)(r:w.heap[f]?=some (.cells b t q))
  (s:∀o,I f o) (u:n<=maxLen):bg w I (.slice e) l [.slice (some ⟨f,0,none⟩) n n]:=by
 obtain⟨v,A,y⟩:=h;have g:l.length=n:=v;refine .inr ⟨f,0,n,by rw[<-g],by rw[<-g];exact cU _,u,λi x z=>?_⟩;have k:l[i]?=some x:=z;have C:i<n:=by have:=(sE.1 k).1;omega
 have p:=y i x k;refine⟨_,p.length,λj c m=>⟨?_,s _⟩,p⟩;rw[cell_of_heap r];rw[kK] at m;split at m
 .rw[pT] at m;rw[kL];simpa using m
 .cases m
theorem qm(z:df P cx){t:TypeId}{n:Nat}{e:Ty}{c:Array (Nat×Operand)}{l:List e.den}(h:b6 B N γ σ a w)(A:find cx.T t=some (.slice e))
  (L:n*e.size<=65536) (C:du σ e (List.replicate n e.zero) c.toList=some (l,aB)) :
  ∃b bc f,0<e.size/\b6 B N bc aB a w/\Ext B γ σ.mem w bc aB.mem w/\bg w bc.I (.arr n e) l b.toList /\
   (Instr.buildSlice t n<|c.map λ(i,x)=>(i,a.eval x)).run P w=.ok (.slice (some ⟨w.heap.size,0,none⟩) n n) (w.alloc<|.cells b f):=by
 have D:=z.T _ _ A;obtain⟨f,r,E,M,s⟩:=D.slice;obtain⟨j,m,u,o,v,F⟩:=E.info;obtain⟨b,bc,y,G,H,J⟩:=pK (n:=n) (place:=λk=>some (k*j.size,j.size)) (λk=>by rw[o]) h
  (l:=List.replicate n e.zero) (cells:=madeCells m.cells (n*e.size)) (by rw[mR F s];exact ia w γ.I (.arr n e)) C
 refine⟨b,bc,f,s,G,H,J,?_⟩;have g:Instr.fill (λi=>some (i*j.size,j.size)) (madeCells m.cells<|n*j.size) (c.map λ(i,x)=>(i,a.eval x)).toList=some b:=by rw[o] at y⊢;simpa using y
 by_cases p:n*j.size=0
 .have q:madeCells m.cells (n*j.size)=#[]:=by rw[p];simp[madeCells]
  rw[q] at g;simp only[Hi] at g;simp[Instr.buildSlice,run_underlying r,Go.sizeOf,typeInfo,zeroValue,u,v,p,newRow];have K:(Array.map (λx:Nat=>(default:Value))<|Array.range 0)=#[]:=by simp[Array.range]
  rw[K,g];rfl
 .exact run_buildSlice w t f n _ b j m r u v (by rw[o];omega) p g
theorem uy(q:df P cx){t:TypeId}{n:Nat}{e:Ty}{b:Array (Nat×Operand)}{l:List e.den}(h:b6 B N γ σ a w)(r:∀k,d=some k->k<N)(s:find cx.T t=some (.slice e))
  (j:Nat.ble (n*e.size) 65536=true) (u:du σ e (List.replicate n e.zero) b.toList=some (l,aB)) :
  iz P B N γ σ a w d (Instr.buildSlice t n<|b.map λ(i,x)=>(i,a.eval x)) (aB.aA d<|.data (.slice e) l):=by
 have j:n*e.size<=65536:=rT j;obtain⟨c,bc,m,y,p,z,A,f⟩:=qm (n:=n) q h s j u;obtain⟨m1,g⟩:=p.ok.NN c m;refine⟨_,_,_,f,p.aA g m1 r (v:=.data (.slice e) l) ⟨[.slice (some ⟨w.heap.size,0,none⟩) n n],?_,rfl⟩,by cases d<;>exact z.trans g⟩;refine A8 (bg.mono g.I g.cells A) (heap_alloc_new w _) (λo=>.inr rfl) ?_;have:n*1<=n*e.size:=Nat.mul_le_mul_left _ y;have:(65536:Nat)<=maxLen:=by decide
 omega
theorem xo(A:df P cx){t:TypeId}{n:Nat}{e:Ty}{c:Array (Nat×Operand)}{l:List e.den}{p k:Nat}{g:St}(h:b6 B N γ σ a w)(C:k<N)(D:find cx.T t=some (.slice e))
  (q:Nat.ble (n*e.size) 65536=true) (E:du σ e (List.replicate n e.zero) c.toList=some (l,g))
  (F:(g.aw (p+k) (.data (.slice e) l) 0 true λau σ=>.ret (σ.put k<|.whole (p+k) au)).run=some aB) :
  iz P B N γ σ a w (some k) (Instr.buildSlice t n<|c.map λ(i,x)=>(i,a.eval x)) aB:=by
 have q:n*e.size<=65536:=rT q;obtain⟨f,bc,r,y,s,G,H,j⟩:=qm (n:=n) A h D q E;obtain⟨au,m,u⟩:=bK F;obtain rfl:=aq u;obtain⟨o,I,J⟩:=H;have o:l.length=n:=o;have v:n<=maxLen:=by
  have:n*1<=n*e.size:=Nat.mul_le_mul_left _ y;have:(65536:Nat)<=maxLen:=by decide
  omega
 obtain⟨K,z⟩:=s.ok.xc (w':=w.alloc (.cells f r)) (b:=p+k) (e:=e) (l:=l) (tid:=0) (au:=au) (cap:=n) m y
  ((lg.refl _ _).alloc s.ok.base _) (cr w _) (heap_alloc_new w _) (oz _ _) (.inl rfl) (yZ o) v (by simpa using I) J
 refine⟨_,_,_,j,s.step z K C ?_,G.trans z⟩;exact⟨⟨_,rfl,rfl⟩,bN (aJ _ _) rfl ⟨e,n,rfl,by rw[<-o];rfl,.inr ⟨w.heap.size,n,by simp[aI],rfl⟩⟩⟩
theorem A9{b:Type}{l r:List b}{c:b}{j:Nat}(h:l.length=j):(l++([c]++r)).take (j+1)=l++[c]:=by
 subst h;rw[List.take_append,sG (by omega)];simp
theorem Ba{place:Nat->Option (Nat×Nat)}(C:∀k,place k=some (k,1))(h:b6 B N γ σ a w) :
  ∀{parts:List (Nat×Operand)} {k:Nat} {v:ax} {cells:Array Value},cells.size=k+parts.length->qb σ k parts=some v ->
   ∃g:List Value,Instr.fill place cells (parts.map λp=>(p.1,a.eval p.2))=some (cells.toList.take k++g).toArray/\bw γ σ.mem w v .cells g:=by
 intro parts;induction parts with
 | nil =>
   intro k v cells A m;obtain rfl:=aq m;refine⟨[],?_,rfl⟩;have:cells.toList.take k=cells.toList:=sG (by simp only[ni,rq] at A;simp[A]);rw[this];simp[Instr.fill]
 | cons p r H =>
   obtain⟨j,x⟩:=p;intro k v cells A m;simp only[qb] at m;cases D:Nat.beq j k with
   | false=>rw[D] at m;cases m
   | true =>
     rw[D] at m;simp only[cd] at m;obtain rfl:=cG D;simp only[gA] at A;have key:∀(u o:ax) (c:Value),(∀t,u≠.pG t)->u≠.undef->bG σ x=u->qb σ (j+1) r=some o->v=.mix u o->(a.eval x).cells.toList=[c] ->
       ∃g:List Value,Instr.fill place cells (((j,x)::r).map λp=>(p.1,a.eval p.2))=some (cells.toList.take j++g).toArray/\bw γ σ.mem w v .cells g:=by
      intro u o c I J n i E l;have hx:=h.bG x;rw[n] at hx;have s:=hx.fu I (λe=>absurd e J);have hlen:(aZ cells.toList j [c]).length=cells.toList.length:=cf (by simp;omega);obtain⟨g,K,L⟩:=H (k:=j+1) (cells:=(aZ cells.toList j [c]).toArray) (by simp only[Jp,hlen,Cy];omega) i;have M:(aZ cells.toList j [c]).take (j+1)=cells.toList.take j++[c]:=by
       have:(cells.toList.take j).length=j:=by rw[fj,Cy];omega
       simp only[aZ];rw[mj,A9 this]
      refine⟨c::g,?_,?_⟩
      .simp only[fY];rw[oC (C j) (by rw[l];rfl)<|by omega,l,K];rw[M];simp
      .rw[E];exact⟨[c],g,rfl,by rw[l] at s;exact s,L⟩
     split at m
     .rename_i o n i;obtain rfl:=aq m;have hx:=h.bG x;rw[n] at hx;obtain hx:a.eval x=_:=by simpa [bw] using hx
      exact key .cB o (.pointer none) (λt e=>by cases e) (λe=>by cases e) n i rfl (by rw[hx];rfl)
     .rename_i b F q o n i;obtain rfl:=aq m;have hx:=h.bG x;rw[n] at hx;obtain⟨⟨y,O,G⟩,_⟩:=hx;obtain rfl:a.eval x=y:=by simpa using O
      refine key (.ptr b F q) o (a.eval x) (λt e=>by cases e) (λe=>by cases e) n i rfl ?_;generalize a.eval x=y at G⊢;cases y<;>first|rfl|(simp[Value.oneCell'] at G)
     .rename_i f c o n i;obtain rfl:=aq m;have hx:=h.bG x;rw[n] at hx;obtain⟨z,hx,_,_⟩:=hx;obtain hx:a.eval x=_:=by simpa using hx
      exact key (.fn f c) o (oj f z) (λt e=>by cases e) (λe=>by cases e) n i rfl (by rw[hx];exact u3 f z)
     .cases m
theorem y9(A:df P cx){t:TypeId}{C n:Nat}{c:Array (Nat×Operand)}(h:b6 B N γ σ a w)(H:∀k,d=some k->k<N)
  (p:(qW cx C d t n c.toList σ).run=some aB):iz P B N γ σ a w d (Instr.buildSlice t n<|c.map λ(i,x)=>(i,a.eval x)) aB:=by
 unfold qW at p;split at p
 case h_2=>cases p
 rename_i k e v I J;obtain⟨D,s⟩:=ak p;simp only[cA] at D;obtain⟨⟨K,L⟩,u⟩:=D;obtain rfl:=cG K;have M:0<c.toList.length:=by simpa using L
 have E:c.toList.length<=64:=rT u;obtain⟨O,Q⟩:=pg A I;obtain⟨_,R,z,S,_⟩:=A.ml _ Q;obtain⟨f,F,q⟩:∃f,P.info? e=some f/\f.size=1:=by
  have:=R w;cases r:P.info? e with
  | none=>simp[Go.sizeOf,typeInfo,r] at this
  | some f=>simp[Go.sizeOf,typeInfo,r] at this;exact⟨f,rfl,this⟩
 obtain⟨g,T⟩:∃g,f.zero=some g:=by
  have:=S w;cases r:f.zero with
  | none=>simp[zeroValue,typeInfo,F,r] at this
  | some g=>exact⟨g,rfl⟩
 obtain⟨U,l,y⟩:=bK s;obtain rfl:=aq y;obtain⟨m,V,W⟩:=Ba (place:=λi=>some (i*f.size,f.size)) (λj=>by rw[q];simp) h (k:=0) (cells:=(Array.range<|c.toList.length*f.size).map (g.cells[· % g.cells.size]!)) (by simp[q]) J;have o:=run_buildSlice w t e c.toList.length (c.map λ(i,x)=>(i,a.eval x)) _ f g O F T (by rw[q];omega) (by rw[q];omega) (by rw[Hi];exact V);obtain⟨m1,G⟩:=h.ok.newVar (b:=C+k) (v:=v) (tid:=0) l (cs:=((((Array.range<|c.toList.length*f.size).map (g.cells[· % g.cells.size]!)).toList.take 0)++m).toArray) e (.inl rfl) (by simpa using W);refine⟨_,_,_,o,h.step G m1 (H k rfl) ?_,G⟩;refine⟨⟨_,rfl,rfl⟩,bN (aJ _ _) rfl ⟨by simp,w.heap.size,0,by simp[aI],by omega,by omega,by omega,_,_,rfl,by simp,.inr ?_⟩⟩;simp[b3]
theorem uz(p:df P cx){t:TypeId}{e:Ty}{j k:Nat}(h:b6 B N γ σ a w)(q:k<N)(r:find cx.T t=some (.slice e))
  (s:(σ.aw (j+k) (.data (.slice e) ([]:List e.den)) 0 true λau σ=>.ret (σ.put k<|.whole (j+k) au)).run=some aB) :
  iz P B N γ σ a w (some k) (Instr.buildSlice t 0 #[]) aB:=by
 obtain⟨c,u,v,E,y⟩:=(p.T _ _ r).slice;obtain⟨F,G,A,H,C,I⟩:=v.info;obtain⟨au,f,m⟩:=bK s;obtain rfl:=aq m;have g:(Instr.buildSlice t 0 #[]).run P w=.ok (.slice (some ⟨w.heap.size,0,none⟩) 0 0) (w.alloc<|.cells #[] c):=by
  simp[Instr.buildSlice,run_underlying u,Go.sizeOf,typeInfo,zeroValue,A,C,newRow,Instr.fill];have n:(Array.map (λx:Nat=>(default:Value))<|Array.range 0)=#[]:=by simp[Array.range]
  rw[n]
 obtain⟨D,o⟩:=h.ok.xc (w':=w.alloc (.cells #[] c)) (b:=j+k) (e:=e) (l:=([]:List e.den)) (tid:=0) (au:=au) (cap:=0) f y
  ((lg.refl _ _).alloc h.ok.base _) (cr w _) (heap_alloc_new w _) (oz _ _) (.inl rfl) (cU _) (jO _) (by simp) (λi z n=>by cases n)
 refine⟨_,_,_,g,h.step o D q ?_,o⟩;exact⟨⟨_,rfl,rfl⟩,bN (aJ _ _) rfl ⟨e,0,rfl,rfl,.inr ⟨w.heap.size,0,by simp[aI],rfl⟩⟩⟩
end
end Go.Ge
namespace Go.Ge
open RowKit
section
variable {P:Program} {B:Own} {N:Nat} {γ:Gh} {σ aB:St} {a:Act} {w w':World} {d:Option Nat} {cx:Ctx}
theorem sc:(4294967296:Nat)<=maxLen:=by decide
theorem C5{n:Nat}(h:fits (n:Int)=true):n<=4294967296:=by simp[fits] at h;omega
theorem vb{b:TypeId}{e:TypeInfo}(c:w8 P b=true)(f:P.info? b=some e):e.bytes<=32768:=by
 unfold w8 at c;rw[f] at c;exact rT c
theorem oD{mem:Nat->Option aS}{b cap blk:Nat}{bx:aS}{e:Ty}{n:Nat}(c:bx.buf=true)(f:bx.row=some (e,n)) :
  bw (aI γ b<|some (blk,cap)) (bq mem b bx) w' (.whole b bx.au) .val [.slice (some ⟨blk,0,none⟩) n cap] :=
 ⟨⟨_,rfl,rfl⟩,bN (aJ _ _) rfl ⟨e,n,c,f,.inr ⟨blk,cap,by simp[aI],rfl⟩⟩⟩
theorem vH(K:df P cx){t:TypeId}{u k:Nat}{e:Ty}{x y:Operand}{D E:IntKind}{l c:Int}(h:b6 B N γ σ a w)(L:k<N)(M:find cx.T t=some (.slice e))
  (O:bG σ x=.data (.int D) l) (Q:bG σ y=.data (.int E) c) (A:inside 0 l c=true) (R:fits c=true)
  (S:(σ.aw (u+k) (.data (.slice e)<|AQ l e.zero) 0 true λau σ=>.ret (σ.put k<|.whole (u+k) au)).run=some aB) :
  iz P B N γ σ a w (some k) (Instr.makeSlice t (a.eval x)<|a.eval y) aB:=by
 obtain⟨au,p,C⟩:=bK S;obtain rfl:=aq C;obtain⟨_,U,V⟩:=iF A;have F:c<=4294967296:=by simpa [fits] using R
 have q:=h.bG x;have r:=h.bG y;rw[O] at q;rw[Q] at r;obtain⟨W,_⟩:=lZ q;obtain⟨X,_⟩:=lZ r;obtain⟨m,Y,Z,f3,G⟩:=(K.T _ _ M).slice;obtain⟨o,v,H,I,e3,e4⟩:=Z.info;have hb:=vb f3 H;have f:(o.bytes:Int)*c<=281474976710656:=by
  have:(o.bytes:Int)*c<=32768*c:=Int.mul_le_mul_of_nonneg_right (by omega) (by omega);omega
 have s:=run_make (P:=P) w t m o v Y H e3 D E l c U V f (by omega);have g:(madeCells v.cells<|c.toNat*o.size).toList=cS (.arr c.toNat e):=by rw[I];exact mR e4 G _
 have hlen:(AQ l e.zero).length=l.toNat:=by simp[AQ]
 obtain⟨m1,J⟩:=h.ok.xc (w':=w.alloc (.cells (madeCells v.cells<|c.toNat*o.size) m)) (b:=u+k) (e:=e) (l:=AQ l e.zero) (tid:=0) (au:=au) (cap:=c.toNat) p G
  ((lg.refl _ _).alloc h.ok.base _) (cr w _) (heap_alloc_new w _) (oz _ _) (.inl rfl) (by rw[hlen];omega) (by have:=sc;omega)
  (by rw[I];exact size_madeCells _ _) (λi z hz=>by
   rw[g];have j:(List.replicate l.toNat e.zero)[i]?=some z:=hz;rw[Gf] at j;split at j
   .rename_i hi;obtain rfl:e.zero=z:=by simpa using j
    have:=de (cS e) c.toNat i (by omega);rw[dk] at this;rw[show cS (.arr c.toNat e)=(List.replicate c.toNat<|cS e).flatten from rfl,this];exact ia _ _ _
   .cases j)
 refine⟨_,_,_,by rw[W,X];exact s,h.step J m1 L ?_,J⟩;have:=oD (γ:=γ) (w':=w.alloc (.cells (madeCells v.cells<|c.toNat*o.size) m)) (mem:=σ.mem) (b:=u+k) (cap:=c.toNat) (blk:=w.heap.size)
  (bx:={ val:=.data (.slice e) (AQ l e.zero),tid:=0,buf:=true,ro:=false,lk:=false,au }) (e:=e) (n:=l.toNat) rfl (by rw[<-hlen];rfl)
 exact this
theorem Bb(b:UInt8):IntKind.u8.min<=((b.toNat:Int))/\((b.toNat:Int))<=IntKind.u8.max:=u8_in b
theorem Bc(l:List Int):(⟨(aH l).toArray⟩:ByteArray)=strOfNums l:=rfl
theorem HA{I:Nat->Nat->Prop}{l:List Int}{v:Value}{b dst e:TypeId}(h:qj w I (.int .u8) l v)(m:P.underlying b=some (.slice e))(n:P.underlying e=some (.int .u8))(o:P.underlying dst=some .string) :
  (convert b dst v).run P w=.ok (.string ⟨(aH l).toArray⟩) w/\l.length<=maxLen:=by
 rcases h with ⟨rfl,k,c,p,s,q⟩|⟨f,g,c,p,s,q,u⟩
 .rcases q with rfl|⟨f,g,rfl⟩
  .rw[p];refine⟨?_,jO _⟩;cases k with
   | none=>exact run_convert_bytes_nil w b e m n 0 0 dst o
   | some t =>
     rw[run_convert_bytes_string w b dst e _ _ _ m n o];have x:(loadCells t 0).run P w=.ok #[] w:=run_loadCells_list (P:=P) w t [] (λj v y=>by cases y);simp[Conv.bytesToString,Sem.run_bind,x,aH];rfl
  .rw[p];refine⟨?_,jO _⟩;exact run_convert_bytes_arg w b e m n f g 0 c [] rfl (λi r=>by omega) dst o
 .rw[p];refine⟨?_,iA s q⟩;rw[Bc];refine run_convert_bytes_arg w b e m n f g l.length c l rfl (λi r=>?_) dst o;obtain⟨C,D,z,A⟩:=u i l[i] (nP r);obtain⟨rfl,_⟩:=A;have:=z 0 _ rfl;simp only[Ty.size,wI,rq] at this;rw[this];simp[List.getD,nP r]
theorem uA(l:List Int):(aH l).length=l.length:=by simp[aH]
theorem bytesRow_at{s:aE}{cap i:Nat}{b:UInt8}(c:s[i]?=some b):((bytesRow ⟨s.toArray⟩ cap).toList.drop<|i*1).take 1=[.int .u8 (b.toNat:Int)]:=by
 have e:=(sE.1 c).1;apply Cw;intro j;rw[kK];split
 .rename_i f;obtain rfl:j=0:=by omega
  rw[pT];simp only[bytesRow,wI,rq,Hg,Hi];rw[Ct<|by simpa using e];simp[c]
 .rename_i f;rw[Hf<|by simp;omega]
theorem za(s:ByteArray){cap:Nat}(h:s.size<=cap):(bytesRow s cap).size=cap:=by
 simp only[bytesRow,Jq,Array.size_map,Array.size_replicate];have:s.data.size=s.size:=rfl;omega
theorem xp(C:df P cx){r k:Nat}{j dst:TypeId}{x:Operand}{s:aE}(h:b6 B N γ σ a w)(F:k<N)(G:find cx.T j=some .str)(t:find cx.T dst=some (.slice<|.int .u8))
  (H:bG σ x=.data .str s) (I:(σ.aw (r+k) (.data (.slice<|.int .u8)<|al s) 0 true λau σ=>.ret (σ.put k<|.whole (r+k) au)).run=some aB) :
  iz P B N γ σ a w (some k) (convert j dst<|a.eval x) aB:=by
 have hv:=h.bG x;rw[H] at hv;obtain⟨J,K⟩:=nT hv;obtain⟨au,m,u⟩:=bK I;obtain rfl:=aq u;obtain⟨c,L,M,R,S⟩:=(C.T _ _ t).slice;have g:=run_bytes_of_string (P:=P) w j dst c ⟨s.toArray⟩ (C.T _ _ G).str L M.int;have p:(⟨s.toArray⟩:ByteArray).size=s.length:=by simp[ByteArray.size]
 rw[p] at g;have q:=grownCap_ge w s.length 0 c;have v:=grownCap_le_maxLen w s.length 0 c K;have y:=za ⟨s.toArray⟩ (cap:=grownCap w s.length 0 c) (by rw[p];exact q);have hlen:(al s).length=s.length:=by simp[al]
 generalize D:grownCap w s.length 0 c=cap at *;obtain⟨m1,E⟩:=h.ok.xc (b:=r+k) (e:=.int .u8) (l:=(al s:List Int)) (tid:=0) (au:=au) (cap:=cap)
  (w':=w.drew.alloc (.cells (bytesRow ⟨s.toArray⟩ cap) c ((bytesRow ⟨s.toArray⟩ cap).size,(bytesRow ⟨s.toArray⟩ cap).size+1)))
  m (by decide) ((lg.refl B w).drew.alloc h.ok.base _) (cr w.drew _) (heap_alloc_new w.drew _) ⟨λo U V=>by omega,λO=>by cases O⟩ (.inl rfl) (iA (yZ hlen) q) v
  (by rw[y];exact(wI _).symm) (λi z Q=>by
   have f:(al s)[i]?=some z:=Q;simp only[al,sH] at f;cases A:s[i]? with
   | none=>rw[A] at f;cases f
   | some b =>
     rw[A] at f;obtain rfl:(b.toNat:Int)=z:=aq f;exact⟨bytesRow_at (cap:=cap) A,Bb b⟩)
 refine⟨_,_,_,by rw[J];exact g,h.step E m1 F ?_,E⟩;have:=oD (γ:=γ) (mem:=σ.mem) (b:=r+k) (cap:=cap) (blk:=w.heap.size)
  (bx:={ val:=.data (.slice<|.int .u8) (al s),tid:=0,buf:=true,ro:=false,lk:=false,au }) (e:=.int .u8) (n:=s.length)
  (w':=w.drew.alloc (.cells (bytesRow ⟨s.toArray⟩ cap) c ((bytesRow ⟨s.toArray⟩ cap).size,(bytesRow ⟨s.toArray⟩ cap).size+1))) rfl (by rw[<-hlen];rfl)
 exact this
theorem tf(e:df P cx){q:Nat}{g dst:TypeId}{x:Operand}(h:b6 B N γ σ a w)(j:∀k,d=some k->k<N)(c:(eI cx q d g dst (bG σ x) σ).run=some aB) :
  iz P B N γ σ a w d (convert g dst<|a.eval x) aB:=by
 have hv:=h.bG x;unfold eI at c;split at c
 .rename_i z k A n f b i;rw[i] at hv;obtain⟨m,_⟩:=lZ hv;obtain rfl:=aq c;refine bd h j (x:=.int k (k.wrap n)) ?_ (mkInt<|dD _ _);rw[m];simp[convert,run_underlying (e.T _ _ f).int,run_underlying (e.T _ _ b).int,Conv.intToInt]
 .rename_i s f b i;rw[i] at hv;obtain rfl:=aq c;obtain⟨m,p⟩:=nT hv;refine bd h j (x:=a.eval x) ?_ hv;rw[m];simp[convert,run_underlying (e.T _ _ f).str,run_underlying (e.T _ _ b).str]
 .rename_i s f b i;split at c
  .rename_i k;obtain⟨C,o⟩:=bM c;exact xp e h (j k rfl) f b i o
  .exact absurd c (by intro k;cases k)
 .rename_i D f b;split at c
  .rename_i l p;obtain rfl:=aq c;obtain⟨r,t,u,E,F⟩:=(e.T _ _ f).slice;obtain⟨v,y⟩:=HA (dst:=dst) (kW h.ok hv p) t u.int (e.T _ _ b).str;refine bd h j v ⟨_,⟨rfl,?_⟩,rfl⟩;exact iA (yZ<|uA l) y
  .exact absurd c (by intro k;cases k)
 .exact absurd c (by intro k;cases k)
end
end Go.Ge
namespace Go.Ge
open RowKit
section
variable {P:Program} {B:Own} {N:Nat} {γ:Gh} {σ aB:St} {a:Act} {w w':World} {d:Option Nat} {cx:Ctx}
def dS(w:World)(I:Nat->Nat->Prop)(e:Ty)(l:List e.den)(cs:List Value):Prop :=
 ∀(i:Nat) (x:e.den),l[i]?=some x->bg w I e x ((cs.drop<|i*e.size).take e.size)
theorem ja{c:Type}{a b:List c}{i s:Nat}(h:(i+1)*s<=a.length):((a++b).drop<|i*s).take s=(a.drop<|i*s).take s:=by
 rw[p6] at h;rw[I0<|by omega,I8 (by rw[mJ];omega)]
theorem dS.append{I:Nat->Nat->Prop}{e:Ty}{l m:List e.den}{c f rest:List Value}(j:dS w I e l c)(k:dS w I e m f)(g:c.length=l.length*e.size)(n:f.length=m.length*e.size) :
  dS w I e (l++m) (c++f++rest):=by
 intro i x b;rw[Jj] at b;split at b
 .rename_i h;have o:(i+1)*e.size<=l.length*e.size:=lz _ h;rw[mj,ja (by omega)];exact j i x b
 .rename_i h;have p:i-l.length<m.length:=(sE.1 b).1;have o:(i-l.length+1)*e.size<=m.length*e.size:=lz _ p;have q:i*e.size=c.length+(i-l.length)*e.size:=by rw[g,<-o0];congr 1;omega
  rw[mj,q,<-oZ,rV,ja (by omega)];exact k _ x b
theorem dS.front{I:Nat->Nat->Prop}{e:Ty}{l:List e.den}{b:List Value}{n:Nat}(h:dS w I e l b)(g:l.length*e.size<=n)(j:n<=b.length):dS w I e l (b.take n):=by
 intro i x c;have f:i<l.length:=(sE.1 c).1;have k:(i+1)*e.size<=l.length*e.size:=lz _ f;have:(((b.take n)++b.drop n).drop<|i*e.size).take e.size=((b.take n).drop<|i*e.size).take e.size:=ja (by rw[fj];omega);rw[<-this,vt];exact h i x c
theorem L4{I:Nat->Nat->Prop}{e:Ty}{m:List e.den}{v:Value}{o z p:TypeId}(q:(∃p,P.underlying o=some (.slice p))\/P.underlying o=some .string)(l:P.underlying z=some (.slice p))(h:qj w I e m v) :
  ∃b,Src P e.size o v m.length b w/\dS w I e m b:=by
 suffices ∃b,Src P e.size z v m.length b w/\dS w I e m b by
  obtain⟨b,c,r⟩:=this;exact⟨b,⟨q,c.len,c.cells,c.cellsD,c.newsLen,c.one⟩,r⟩
 rcases h with ⟨rfl,g,f,n,C,A⟩|⟨s,t,f,n,C,A,D⟩
 .refine⟨[],?_,λi x E=>by cases E⟩;rcases A with rfl|⟨s,t,rfl⟩
  .rw[n];cases g with
   | none=>exact Src.ofNil w l 0
   | some F=>exact Src.ofSlice w l F 0 0 [] (by simp) (λj u k=>by cases k) (λu y=>by cases y)
  .rw[n];exact Src.ofSlice w l _ 0 f [] (by simp) (λj u k=>by cases k) (λu y=>by cases y)
 .obtain⟨b,c,r,G,H⟩:=xi (w:=w) D;refine⟨b,?_,H⟩;rw[n];exact Src.ofSlice w l _ m.length f b c (λj u k=>by rw[addr_add];exact r j u k) G
theorem L5{I:Nat->Nat->Prop}{s:aE}{g:TypeId}(k:(∃l,P.underlying g=some (.slice l))\/P.underlying g=some .string) :
  ∃e,Src P 1 g (.string ⟨s.toArray⟩) (al s).length e w/\dS w I (.int .u8) (al s:List Int) e:=by
 have hlen:(al s).length=(⟨s.toArray⟩:ByteArray).size:=by simp[al,ByteArray.size]
 refine⟨byteCells ⟨s.toArray⟩,by rw[hlen];exact⟨k,λ_=>rfl,firstCells_string _ w,firstCells_string _ w.drew,by rw[byteCells_length,wI],λu m=>by
  obtain⟨_,_,rfl⟩:=lY.1 m;rfl⟩,λi x n=>?_⟩
 have c:(al s)[i]?=some x:=n;simp only[al,sH] at c;cases h:s[i]? with
 | none=>rw[h] at c;cases c
 | some b =>
   rw[h] at c;obtain rfl:(b.toNat:Int)=x:=aq c;refine⟨?_,Bb b⟩;apply Cw;intro j;rw[kK];split
   .rename_i f;obtain rfl:j=0:=by simp[Ty.size] at f;exact f
    rw[pT];simp[byteCells,Ty.size,h]
   .rename_i f;rw[Hf<|by simp[Ty.size] at f⊢;omega]
theorem xq{I:Nat->Nat->Prop}{t j ty b:TypeId}{e:Ty}{l m:List e.den}{base:Option Addr}{sCap:Nat}{olds c:List Value}{x:Value}(C:P.underlying t=some (.slice b))(D:Den P e b)(E:w8 P b=true)
  (f:(Builtin.firstCells e.size l.length<|.slice base l.length sCap).run P w.drew=.ok olds.toArray w.drew) (g:olds.length=l.length*e.size) (F:dS w I e l olds)
  (k:Src P e.size j x m.length c w) (G:dS w I e m c) (y:sCap<l.length+m.length) (H:l.length+m.length<=4294967296) :
  ∃(cap:Nat) (cells:Array Value),(Builtin.append_ #[t,j] ty #[.slice base l.length sCap,x]).run P w=.ok (.slice (some ⟨w.heap.size,0,none⟩) (l.length+m.length) cap) (w.drew.alloc<|.cells cells b) /\
   l.length+m.length<=cap/\cap<=maxLen/\cells.size=cap*e.size/\dS w I e (l++m) cells.toList:=by
 obtain⟨n,o,z,A,J,K⟩:=D.info;have p:=vb E z;have h:=growslice_fits (need:=l.length+m.length) (old:=sCap) (bytes:=n.bytes) y (by
  have:(l.length+m.length)*n.bytes<=4294967296*32768:=Nat.mul_le_mul H p;omega)
 have i:=run_append_grow_src (P:=P) w t j ty b n o C z J base l.length sCap olds (by rw[A];exact f) x m.length c (by rw[A];exact k) y (by omega) h;have q:=grownCap_ge w (l.length+m.length) sCap b;have r:=grownCap_le_maxLen w (l.length+m.length) sCap b (by have:=sc;omega);have s:o.cells.size=e.size:=by rw[<-dk e,<-K];simp
 refine⟨_,_,i,q,r,?_,?_⟩
 .have u:=k.newsLen;have v:(Builtin.zeroCells o.cells<|grownCap w (l.length+m.length) sCap b-(l.length+m.length)).size=(grownCap w (l.length+m.length) sCap b-(l.length+m.length))*e.size:=by
   simp[Builtin.zeroCells,s]
  rw[Jq,v];simp only[Jp,l9,g,u];rw[<-o0,<-o0]
  congr 1;omega
 .rw[Hg];exact F.append G g k.newsLen
theorem aO.grow{r:Nat->Option aS}(h:aO B γ r w){b:Nat}{bx:aS}(A:r b=some bx){e:Ty}{l l':List e.den}(p:bx.buf=true)(G:bx.val=.data (.slice e) l){g cap:Nat}(hl:γ.loc b=some (g,cap))
  {s cur':Array Value} {t:TypeId} {fr:Nat×Nat} (Q:w.heap[g]?=some (.cells s t fr)) (H:LP e s fr) (JZ:bx.tid=0\/t=bx.tid) (R:cur'.size=s.size) (D:∀o,o<l.length*e.size->cur'[o]?=s[o]?)
  (he:0<e.size) (J:l.length<=l'.length) (NO:l'.length<=cap) (NP:cap<=maxLen) (K:s.size=cap*e.size) (L:dS w γ.I e l' cur'.toList) :
  let j:aS:={ bx with val:=.data (.slice e) l',au:=bx.au+1 }
  aO B γ (bq r b j) (w.setRow g cur')/\Ext B γ r w γ (bq r b j) (w.setRow g cur'):=by
 intro j;have T:=h.fresh b g cap (by rw[A];simp) hl;have OQ:=setRow_heap w g s cur' t fr Q;have m:∀i,i≠g->(w.setRow g cur').heap[i]?=w.heap[i]?:=λi y=>setRow_other w g i cur' (λe=>y e);have C:=aS.ck p G;have hx:Ext B γ r w γ (bq r b j) (w.setRow g cur') :=
  { below:=⟨rfl,rfl,rfl,by simp,λi y=>m i λe=>y (by rw[e];exact T.1)⟩
    I:=λ_ _ x=>x
    mo:=λ_ _ x=>.inl x
    cells:=λc o x=>by
     by_cases v:c=g
     .subst v;have:=(h.sep b bx c cap o A hl x).2 p e l.length C;rw[cell_of_heap OQ,cell_of_heap Q];exact D o this
     .exact dU (m c v)
    boxes:=λc cx q=>by
     by_cases v:c=b
     .subst v;obtain rfl:cx=bx:=aq (q.symm.trans A);exact⟨j,aJ _ _,Nat.le_succ _,λk=>absurd k (by simp[j])⟩
     .exact⟨cx,by rw[az _ v];exact q,cU _,λ_=>⟨rfl,rfl,rfl⟩⟩ }
 refine⟨?_,hx⟩;exact
  { bD:=h.sX hx
    base:=by have:=h.base;simpa using this
    boxes:=λc cx q=>by
     by_cases v:c=b
     .subst v;rw[aJ] at q;obtain rfl:=aq q;unfold ca;simp only[j,p];exact .inr ⟨e,l',rfl,he,.inr ⟨g,cap,cur',t,fr,hl,OQ,H.same R,JZ,NO,NP,by rw[R];exact K,λi x y=>bg.mono hx.I hx.cells (L i x y)⟩⟩
     .rw[az _ v] at q;refine(h.boxes c cx q).keep hx rfl λf E M=>m f λU=>v ?_;subst U;exact h.inj c b f E cap (by rw[q];simp) (by rw[A];simp) M hl
    inj:=λc d f V W q X F Y=>h.inj c d f V W (by
     by_cases e:c=b
     .subst e;rw[A];simp
     .rwa [az _ e] at q) (by
     by_cases e:d=b
     .subst e;rw[A];simp
     .rwa [az _ e] at X) F Y
    fresh:=λc f E q F=>by
     have:=h.fresh c f E (by
      by_cases e:c=b
      .subst e;rw[A];simp
      .rwa [az _ e] at q) F
     exact⟨this.1,by simpa using this.2⟩
    lX:=λf z y=>by have:=h.lX f z y;simpa using this
    sep:=λc cx f E z q F y=>by
     by_cases v:c=b
     .subst v;rw[aJ] at q;obtain rfl:=aq q;obtain⟨Z,s2⟩:=h.sep c bx f E z A F y;refine⟨Z,λ_ u n S=>?_⟩;have O:j.row=some (e,l'.length):=aS.ck (bx:=j) p rfl;rw[O] at S;obtain⟨rfl,rfl⟩:=b8 (aq S);have:=s2 p e l.length C;exact rp this (lz _ J)
     .rw[az _ v] at q;exact h.sep c cx f E z q F y }
theorem J2(j:aO B γ σ.mem w){e:Ty}{m:List e.den}{x:ax}{v:Value}{f k g:TypeId}(c:(∃g,P.underlying f=some (.slice g))\/P.underlying f=some .string)(l:P.underlying k=some (.slice g))
  (i:bw γ σ.mem w x .val [v]) (h:mL e σ x=some m):∃b,Src P e.size f v m.length b w/\dS w γ.I e m b:=by
 unfold mL at h;split at h
 .rename_i t;obtain⟨q,n⟩:=gh h;subst q;subst n;obtain⟨o,_⟩:=nT i;rw[o];exact L5 c
 .exact L4 c l (kW j i h)
theorem pn{α:Type}{c:Bool}{t:Tree α}{y:α}(h:(bif c then .fail else t).run=some y):c=false/\t.run=some y:=by
 cases c with
 | true=>cases h
 | false=>exact⟨rfl,h⟩
theorem km{base:Option Addr}{t i ty f:TypeId}{b:Nat}{x:Value}{c:List Value}(j:P.underlying t=some (.slice f))(g:(Go.sizeOf f).run P w=.ok b w)(e:Src P b i x 0 c w) :
  (Builtin.append_ #[t,i] ty #[.slice base 0 0,x]).run P w=.ok (.slice base 0 0) w:=by
 cases base with
 | none=>rcases e.kind with ⟨k,h⟩|h<;>simp[Builtin.append_,run_underlying j,run_underlying h,g,e.len,e.cells]
 | some m =>
   have l:c=[]:=by have:=e.newsLen;simpa using this
   subst l;rcases e.kind with ⟨k,h⟩|h<;>simp[Builtin.append_,run_underlying j,run_underlying h,g,e.len,e.cells,storeCells]
theorem rz(b:Nat)(c:Option Addr):(Builtin.firstCells b 0<|.slice c 0 0).run P w=.ok #[] w:=by
 cases c with
 | none=>exact run_firstCells_none w b 0 0 0
 | some e=>exact run_firstCells_some w b 0 e 0 0 [] (by simp) (λj v f=>by cases f)
theorem po{t tx ty i:TypeId}{c:Nat}{x:Value}{e:List Value}{n b sCap f:Nat}{g:Array Value}{p:TypeId}{l:Nat×Nat}(r:P.underlying t=some (.slice i))(m:(Go.sizeOf i).run P w=.ok c w)
  (k:Src P c tx x n e w) (s:w.heap[f]?=some (.cells g p l)) (o:iD g l) (h:b+n<=sCap) (u:b*c+e.length<=g.size) :
  (Builtin.append_ #[t,tx] ty #[.slice (some ⟨f,0,none⟩) b sCap,x]).run P w=.ok (.slice (some ⟨f,0,none⟩) (b+n) sCap) (w.setRow f (aZ g.toList (b*c) e).toArray):=by
 have j:=cQ (P:=P) f (b*c) p l e 0 g w s o (by omega) k.one;simp only[rq] at j;rcases k.kind with ⟨v,q⟩|q<;>simp[Builtin.append_,run_underlying r,run_underlying q,m,k.len,h,k.cells,addr_add,j]
theorem sd{b es:List Value}{k o:Nat}(h:o<k)(c:k<=b.length):(aZ b k es)[o]?=b[o]?:=by
 rw[aZ,mj,Ct (by rw[fj];omega),kK,bH h]
theorem uB(hc:df P cx){nb:Nat}{t tx ty:TypeId}{s x:Operand}(h:b6 B N γ σ a w)(hd:∀k,d=some k->k<N)(Sf:(∃e',P.underlying tx=some (.slice e'))\/P.underlying tx=some .string)
  (H:(eS cx nb d t (bG σ s) (bG σ x) σ).run=some aB):iz P B N γ σ a w d (Builtin.append_ #[t,tx] ty #[a.eval s,a.eval x]) aB:=by
 have Q:=h.bG s;have Sg:=h.bG x;unfold eS at H;split at H
 case h_2=>exact absurd H (by intro k;cases k)
 rename_i _ _ k e hT;obtain⟨y,S,f2,f3,f4⟩:=(hc.T _ _ hT).slice;have W:=f2.sizeOf w;split at H
 case h_2=>exact absurd H (by intro k;cases k)
 rename_i m hm;have hm:mL e σ (bG σ x)=some m:=hm;obtain⟨z,X,n2⟩:=J2 h.ok Sf S Sg hm;split at H
 .rename_i hs;rw[hs] at Q;obtain J:a.eval s=_:=by simpa [bw] using Q
  obtain⟨U,Y⟩:=bM H;have U:m.length<=4294967296:=C5 U;obtain⟨au,E,J0⟩:=bK Y;obtain rfl:=aq J0;rw[J];rcases Gk m.length with D|D
  .obtain rfl:m=[]:=tY.1 D;obtain⟨m1,r⟩:=h.ok.r9 (b:=nb+k) (tid:=0) E f4;refine⟨_,_,_,km S W X,h.step r m1 (hd k rfl) ?_,r⟩;exact⟨⟨_,rfl,rfl⟩,bN (aJ _ _) rfl ⟨e,0,rfl,rfl,.inl ⟨by simp[aI],rfl⟩⟩⟩
  .obtain⟨cap,f,g1,g2,O,g4,g5⟩:=xq (I:=γ.I) (ty:=ty) (l:=([]:List e.den)) (base:=none) (sCap:=0) (olds:=[]) S f2 f3 (by simpa using run_firstCells_none w.drew e.size 0 0 0) (by simp) (λi x hx=>by cases hx) X n2
    (by simpa using D) (by simpa using U)
   simp only[ni,kL,rU] at g1 g2 g5;obtain⟨m1,r⟩:=h.ok.xc (b:=nb+k) (e:=e) (l:=m) (tid:=0) (au:=au) (cap:=cap) E f4 ((lg.refl B w).drew.alloc h.ok.base _) (cr w.drew _) (heap_alloc_new w.drew _) (oz _ _) (.inl rfl) g2 O g4 g5;refine⟨_,_,_,g1,h.step r m1 (hd k rfl) ?_,r⟩;exact oD (bx:={ val:=.data (.slice e) m,tid:=0,buf:=true,ro:=false,lk:=false,au }) (e:=e) (n:=m.length) rfl rfl
 .rename_i b au hs;rw[hs] at Q;split at H
  case h_2=>exact absurd H (by intro k;cases k)
  rename_i bx l Z hl;obtain⟨j9,Rj,E,c,R⟩:∃bx,σ.mem b=some bx/\bx.au=au/\bx.buf=true/\bx.val=.data (.slice e) l:=by
   rcases iG hl with q|⟨q,_⟩|⟨b',Si,j9,q,h1,K,h3,h4⟩|⟨_,_,_,_,_,q,_⟩
   .cases q
   .cases q
   .cases q;exact⟨j9,h1,K,h3,h4⟩
   .cases q
  obtain rfl:bx=j9:=aq (Z.symm.trans Rj)
  .obtain⟨IX,P5⟩:=pn H;obtain⟨U,Y⟩:=bM P5;obtain rfl:=aq Y;have U:l.length+m.length<=4294967296:=by
    have:fits (((l.length+m.length:Nat)):Int)=true:=by rw[<-U];simp[plus,len]
    exact C5 this
   have V:bx.tid=0\/y=bx.tid:=by
    simp only[wD,Bool.not_eq_false'] at IX;have K:=IX.2;unfold NC at K;simp only[wG] at K;rcases K with K|K
    .exact .inl (cG K)
    .split at K
     .rename_i e' Sj;have:=hc.JB _ _ Sj;rw[S] at this;have h4:y=e':=by injection this with this;injection this
      exact .inr (h4.trans<|cG K)
     .cases K
   subst E;obtain⟨e2,TQ,g1,g2,O⟩:=aC Z rfl Q.2;rw[aS.ck c R] at g2;obtain⟨rfl,rfl⟩:=b8 (aq g2);have NM:=h.ok.boxes b bx Z;obtain⟨e3,l3,q1,q2,G⟩:=NM.Hq c (λ_ q=>by rw[R] at q;cases q);rw[R] at q1;cases q1;have g:(app (α:=e.den) l m).length=l.length+m.length:=l9;rcases O with ⟨O,g4⟩|⟨A,cap,O,g4⟩
   .obtain J:a.eval s=_:=by simpa using g4
    have NQ:l=[]:=by
     rcases G with ⟨_,G⟩|⟨A,cap,u,tid,fr,G,_⟩
     .exact G
     .rw[O] at G;cases G
    subst NQ;rw[J];rcases Gk m.length with D|D
    .obtain rfl:m=[]:=tY.1 D;have M:ca (aI γ b none) (bq σ.mem b { bx with val:=.data (.slice e) ([]:List e.den),au:=bx.au+1 }) w b { bx with val:=.data (.slice e) ([]:List e.den),au:=bx.au+1 }:=by
      unfold ca;simp only[c];exact .inr ⟨e,[],rfl,f4,.inl ⟨by simp[aI],rfl⟩⟩
     have C:∀p,σ.mem b=some p->p.au<bx.au+1:=λp D=>by rw[Z] at D;obtain rfl:=aq D;omega
     have m1:=h.ok.add (L:=none) C (lg.refl B w) (λ_ _=>rfl) (λA k e=>by cases e) M;have r:=jG (L:=none) h.ok (bx:={ bx with val:=.data (.slice e) ([]:List e.den),au:=bx.au+1 }) C (lg.refl B w) (λ_ _=>rfl);refine⟨_,_,_,km S W X,h.step r m1 (hd k rfl) ?_,r⟩;exact⟨⟨_,rfl,rfl⟩,bN (aJ _ _) rfl ⟨e,0,c,aS.ck (bx:={ bx with val:=.data (.slice e) ([]:List e.den),au:=bx.au+1 }) c rfl,.inl ⟨by simp[aI],rfl⟩⟩⟩
    .obtain⟨cap,f,j1,j2,j3,j4,j5⟩:=xq (I:=γ.I) (ty:=ty) (l:=([]:List e.den)) (base:=none) (sCap:=0) (olds:=[]) S f2 f3 (by simpa using rz (w:=w.drew) e.size none) (by simp) (λi x hx=>by cases hx) X n2
      (by simpa using D) (by simpa using U)
     have C:∀p,σ.mem b=some p->p.au<bx.au+1:=λp D=>by rw[Z] at D;obtain rfl:=aq D;omega
     have hw:lg B w (w.drew.alloc<|.cells f y):=(lg.refl B w).drew.alloc h.ok.base _;have r:=jG (L:=some (w.heap.size,cap)) h.ok (bx:={ bx with val:=.data (.slice e) (app (α:=e.den) [] m),au:=bx.au+1 }) C hw (cr w.drew _);have M:ca (aI γ b<|some (w.heap.size,cap)) (bq σ.mem b { bx with val:=.data (.slice e) (app (α:=e.den) [] m),au:=bx.au+1 }) (w.drew.alloc<|.cells f y) b { bx with val:=.data (.slice e) (app (α:=e.den) [] m),au:=bx.au+1 }:=by
      unfold ca;simp only[c];exact .inr ⟨e,_,rfl,f4,.inr ⟨w.heap.size,cap,f,y,(0,0),by simp[aI],heap_alloc_new w.drew _,oz _ _,V,by rw[g];exact j2,j3,j4,λi x hi=>bg.mono r.I r.cells (j5 i x hi)⟩⟩
     have m1:=h.ok.add (L:=some (w.heap.size,cap)) C hw (cr w.drew _) (λA k e=>by obtain⟨rfl,rfl⟩:=b8 (aq e);exact⟨cU _,(oc.1<|heap_alloc_new w.drew _).1⟩) M;refine⟨_,_,_,j1,h.step r m1 (hd k rfl) ?_,r⟩;exact oD (bx:={ bx with val:=.data (.slice e) (app (α:=e.den) [] m),au:=bx.au+1 }) (e:=e) (n:=List.length (α:=e.den) []+m.length) c (by rw[<-g];exact aS.ck (bx:={ bx with val:=.data (.slice e) (app (α:=e.den) [] m),au:=bx.au+1 }) c rfl)
   .obtain J:a.eval s=_:=by simpa using g4
    rw[J];rcases G with ⟨G,_⟩|⟨JY,CZ,u,tid,fr,G,q4,q5,OR,q6,q7,q8,q9⟩
    .rw[O] at G;cases G
    rw[O] at G;obtain⟨rfl,rfl⟩:=b8 (aq G);have Sk:u.toList.length=cap*e.size:=by simpa using q8
    have TR:l.length*e.size<=cap*e.size:=lz _ q6;rcases ue cap (l.length+m.length) with Sl|hle
    .have Sm:=run_firstCells_some (P:=P) w.drew e.size l.length ⟨A,0,none⟩ l.length cap (u.toList.take<|l.length*e.size) (by rw[fj];omega) (λj v hj=>by
      rw[addr_add];show w.cell? ⟨A,0+j,none⟩=some v
      rw[cell_of_heap q4];rw[kK] at hj;split at hj
      .simpa using hj
      .cases hj)
     obtain⟨F,f,j1,j2,j3,j4,j5⟩:=xq (I:=γ.I) (ty:=ty) (l:=l) (base:=some ⟨A,0,none⟩) (sCap:=cap) S f2 f3 Sm (by rw[fj];omega) (dS.front q9 (cU _)<|by omega) X n2 Sl U;have C:∀p,σ.mem b=some p->p.au<bx.au+1:=λp D=>by rw[Z] at D;obtain rfl:=aq D;omega
     have hw:lg B w (w.drew.alloc<|.cells f y):=(lg.refl B w).drew.alloc h.ok.base _;have r:=jG (L:=some (w.heap.size,F)) h.ok (bx:={ bx with val:=.data (.slice e) (app (α:=e.den) l m),au:=bx.au+1 }) C hw (cr w.drew _);have M:ca (aI γ b<|some (w.heap.size,F)) (bq σ.mem b { bx with val:=.data (.slice e) (app (α:=e.den) l m),au:=bx.au+1 }) (w.drew.alloc<|.cells f y) b { bx with val:=.data (.slice e) (app (α:=e.den) l m),au:=bx.au+1 }:=by
      unfold ca;simp only[c];exact .inr ⟨e,_,rfl,f4,.inr ⟨w.heap.size,F,f,y,(0,0),by simp[aI],heap_alloc_new w.drew _,oz _ _,V,by rw[g];exact j2,j3,j4,λi x hi=>bg.mono r.I r.cells (j5 i x hi)⟩⟩
     have m1:=h.ok.add (L:=some (w.heap.size,F)) C hw (cr w.drew _) (λA k e=>by obtain⟨rfl,rfl⟩:=b8 (aq e);exact⟨cU _,(oc.1<|heap_alloc_new w.drew _).1⟩) M;refine⟨_,_,_,j1,h.step r m1 (hd k rfl) ?_,r⟩;exact oD (bx:={ bx with val:=.data (.slice e) (app (α:=e.den) l m),au:=bx.au+1 }) (e:=e) (n:=l.length+m.length) c (by rw[<-g];exact aS.ck (bx:={ bx with val:=.data (.slice e) (app (α:=e.den) l m),au:=bx.au+1 }) c rfl)
    .have PC:=X.newsLen;have hmul:(l.length+m.length)*e.size<=cap*e.size:=lz _ hle;rw[o0] at hmul;have hlen:l.length*e.size+z.length<=u.toList.length:=by rw[PC,Sk];exact hmul
     have P6:=po (P:=P) (t:=t) (tx:=tx) (ty:=ty) (sCap:=cap) S W X q4 q5.th hle (by simpa using hlen);have P7:(aZ u.toList (l.length*e.size) z).toArray.size=u.size:=by have:=cf hlen;simpa using this
     obtain⟨m1,r⟩:=h.ok.grow Z c R O q4 q5 OR (cur':=(aZ u.toList (l.length*e.size) z).toArray) (l':=app (α:=e.den) l m) P7 (λo ho=>by
      have:=sd (es:=z) ho (by omega:l.length*e.size<=u.toList.length);simpa using this) f4 (by rw[g];omega) (by rw[g];exact hle) q7 q8 (by
      have:=(dS.front q9 (cU _) (by omega:l.length*e.size<=u.toList.length)).append (rest:=u.toList.drop (l.length*e.size+z.length)) n2 (by rw[fj];omega) PC;exact this)
     refine⟨_,_,γ,P6,h.step r m1 (hd k rfl) ?_,r⟩;exact⟨⟨_,rfl,rfl⟩,bN (aJ _ _) rfl ⟨e,l.length+m.length,c,by rw[<-g];exact aS.ck (bx:={ bx with val:=.data (.slice e) (app (α:=e.den) l m),au:=bx.au+1 }) c rfl,.inr ⟨A,cap,O,rfl⟩⟩⟩
 .exact absurd H (by intro k;cases k)
end
end Go.Ge
