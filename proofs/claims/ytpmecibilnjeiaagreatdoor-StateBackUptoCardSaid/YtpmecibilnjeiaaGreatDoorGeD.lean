/- A ghost interpreter of the model's code, and that it tells the truth: part 4. It says of a function of plain data what a call of it comes to. -/
import Derived.Test.YtpmecibilnjeiaaGreatDoorGeC
import Derived.Great.BuildSlice
import Derived.Laws.IdiomStrings
import Derived.Laws.BytesArg
import Derived.Laws.MakeOwn
import Derived.Deep.AppendSrc
set_option linter.unusedVariables false
set_option linter.unusedSimpArgs false
set_option linter.unusedSectionVars false
namespace Go.Ge
open RowKit
section
variable {P:Program} {B:qM} {N:Nat} {γ:Gh} {σ bb:St} {a:Act} {w:World} {d:Option Nat} {cx:Ctx}
theorem Tz{bx:bB}{k:Nat}{c v:aL}{f:aL->Tree aL}(j:bx.buf=false)(l:bx.val=v)(h:(EI v k f).run=some c):({ bx with val:=c }:bB).row=bx.row:=by
 obtain⟨g,tid,m,r,s,o⟩:=bx;subst j;subst l;cases g with
 | data t x =>
   obtain⟨y,i,b⟩:=bind_some (show((HQ t x k f).bind λy=>.ret (.data t y)).run=some c from h);obtain rfl:=aG b;cases t with
   | arr n e=>cases k<;>exact absurd i (by intro k;cases k)
   | _=>rfl
 | mix p q =>
   cases k with
   | zero =>
     obtain⟨y,i,b⟩:=bind_some (show((f p).bind λv=>.ret (.mix v q)).run=some c from h);obtain rfl:=aG b;rfl
   | succ k =>
     obtain⟨y,i,b⟩:=bind_some (show((EI q k f).bind λv=>.ret (.mix p v)).run=some c from h);obtain rfl:=aG b;rfl
 | _=>exact absurd h (by intro k;cases k)
theorem abI{bx:bB}{e:Ty}{l:List e.den}{i:Int}{y:e.den}(b:bx.buf=true)(c:bx.val=.data (.slice e) l):({ bx with val:=.data (.slice e) (nF l i y) }:bB).row=bx.row:=by
 rw[bB.dk b c,bB.dk (bx:={ bx with val:=.data (.slice e) (nF l i y) }) (l:=nF l i y) b rfl];simp[nF]
theorem F6{bx:bB}{p:List BV}{v c:aL}(h:(HR bx.buf p bx.val v).run=some c)(m:p=[]->bx.buf=false->({ bx with val:=v }:bB).row=bx.row) :
  ({ bx with val:=c }:bB).row=bx.row:=by
 unfold HR at h;split at h
 .rename_i b;cases p with
  | nil=>obtain rfl:=aG h;exact m rfl b
  | cons s p =>
    cases s with
    | fW k off=>exact Tz b rfl h
    | idx i size =>
      simp only[vY] at h;split at h
      .rename_i n e l g;obtain⟨x,o,j⟩:=bY h;obtain⟨z,q,f⟩:=bind_some j;split at f
       .obtain rfl:=aG f;rw[bB.p6 b g];exact bB.p6 (bx:={ bx with val:=_ }) b rfl
       .exact absurd f (by intro k;cases k)
      .exact absurd h (by intro k;cases k)
 .rename_i b;split at h
  .rename_i i size p e l g;obtain⟨x,o,j⟩:=bY h;obtain⟨z,q,f⟩:=bind_some j;split at f
   .obtain rfl:=aG f;exact abI b g
   .exact absurd f (by intro k;cases k)
  .exact absurd h (by intro k;cases k)
theorem Bo(h:cM B N γ σ a w){b aM:Nat}{p:List BV}{O:aL->Bool}{u:aL}{es:List Value}(Q:(storeAt b aM p O u σ).run=some bb)(hu:cf γ σ.mem w u .cells es)
  (U:∀H,O H=true->es.length=cV H) (V:∀bx:bB,O bx.val=true->bx.buf=false->({ bx with val:=u }:bB).row=bx.row)
  {m o:Nat} (R:γ.loc b=some (m,o)) :
  ∃w',(storeCells ⟨m,cC p,none⟩ es).run P w=.ok () w'/\cM B N γ bb a w'/\Ext B γ σ.mem w γ bb.mem w':=by
 unfold storeAt at Q;split at Q
 case h_2=>exact absurd Q (by intro k;cases k)
 rename_i bx hb;obtain⟨hc,hr2⟩:=ay Q;simp only[dv,j7] at hc;obtain⟨⟨ajo,ZG⟩,W⟩:=hc;obtain⟨H,q,hr3⟩:=bind_some hr2;obtain⟨L,hr4⟩:=ay hr3;obtain⟨c,S,hr5⟩:=bind_some hr4;obtain rfl:=aG hr5;have r:=U H L;have X:({ bx with val:=c }:bB).row=bx.row:=F6 S λhp g=>by
  subst hp;rw[g] at q;obtain rfl:=aG q;exact V bx L g
 have t:=h.ok.boxes b bx hb;unfold cB at t;unfold WI at q;unfold HR at S;have hbb:bx.buf=false\/bx.buf=true:=by cases bx.buf<;>simp
 rcases hbb with g|g
 .rw[g] at t q S;obtain⟨Y,Z,f,tid,fr,h1,h2,F,A,h4⟩:=t;rw[R] at h1;obtain⟨rfl,rfl⟩:=bk (aG h1);obtain⟨k1,k2⟩:=vl h4 q;have C:cC p+es.length<=f.toList.length:=by rw[r];exact k1
  have D:=cL (P:=P) m (cC p) tid fr es 0 f w h2 F (by simpa using C) (λv hv=>hu.one v hv);rw[wL] at D;have J:(aR f.toList (cC p) es).toArray.size=f.size:=by have:=bL C;simpa using this
  obtain⟨m1,m2⟩:=h.ok.write hb W R h2 (cur':=(aR f.toList (cC p) es).toArray) (v:=c) J X
   (λw' dO G hg=>by
    show cB γ dO w' b { bx with val:=c }
    unfold cB;simp only[g];exact⟨m,o,_,tid,fr,R,hg,F.same J,A,by simpa using xN (h4.ext G) q S (hu.ext G) r⟩)
  exact⟨_,D,h.go m2 m1,m2⟩
 .rw[g] at t q S;obtain⟨e,l,h1,h2,F⟩:=t;rw[h1] at q S;rcases F with ⟨F,_⟩|⟨Y,Z,f,tid,fr,F,h4,h5,A,h6,h7,h8,h9⟩
  .rw[R] at F;cases F
  .rw[R] at F;obtain⟨rfl,rfl⟩:=bk (aG F);cases p with
   | nil=>cases q
   | cons s p =>
     cases s with
     | fW k off=>cases q
     | idx i size =>
       obtain⟨hsb,hn2⟩:=ay q;have J:=eX hsb;obtain⟨x,G,hn3⟩:=bY hn2;obtain⟨x',hx',hs2⟩:=bY S;obtain rfl:x=x':=aG (G.symm.trans hx');obtain⟨z,hq,K⟩:=bind_some hs2;cases hz:toS e z with
       | none=>rw[hz] at K;cases K
       | some y =>
         rw[hz] at K;obtain rfl:=aG K;obtain⟨h0,hx2⟩:=sj G;have Q:=h9 _ x hx2;have hrl:=Q.length;have hi:i.toNat<l.length:=(fU.1 hx2).1;have hm2:(i.toNat+1)*e.size<=o*e.size:=gb _ (by omega);rw[zg] at hm2;have hrr:cf γ σ.mem w (.data e x) .cells ((f.toList.drop<|i.toNat*e.size).take e.size):=Q;obtain⟨k1,k2⟩:=vl hrr hn3;rw[hrl] at k1;have T:f.toList.length=o*e.size:=by simpa using h8
         have M:cC (.idx i size::p)=i.toNat*e.size+cC p:=by simp only[cC,J]
         have C:cC (.idx i size::p)+es.length<=f.toList.length:=by rw[M,r,T];omega
         have D:=cL (P:=P) m (cC (.idx i size::p)) tid fr es 0 f w h4 h5.th (by simpa using C) (λv hv=>hu.one v hv);rw[wL] at D;have E:(aR f.toList (cC (.idx i size::p)) es).toArray.size=f.size:=by have:=bL C;simpa using this
         have e1:=rE f.toList (i.toNat*e.size) (cC p) e.size es (by rw[r];exact k1) (by rw[T];omega);obtain⟨m1,m2⟩:=h.ok.write hb W R h4 (cur':=(aR f.toList (cC (.idx i size::p)) es).toArray) (v:=.data (.slice e) (nF (α:=e.den) l i y)) E X
          (λw' dO G hg=>by
           show cB γ dO w' b { bx with val:=.data (.slice e) (nF (α:=e.den) l i y) }
           unfold cB;simp only[g];refine⟨e,_,rfl,h2,.inr ⟨m,o,_,tid,fr,R,hg,h5.same E,A,?_,h7,by rw[E];exact h8,?_⟩⟩
           .exact fM (zh List.length_set) h6
           .have hzz:=H2 hz (xN (hrr.ext G) hn3 hq (hu.ext G) r);have:=IQ (w:=w') (I:=γ.I) (l:=l) (n:=l.length) (cs:=f.toList) rfl (by rw[T];exact gb _ h6)
             (λj x hj=>bD.mono G.I G.cells (h9 j x hj)) hi hzz
            rw[e1,<-M] at this;exact this)
         exact⟨_,D,h.go m2 m1,m2⟩
theorem WU{c:Nat->Option bB}:∀{t:Ty} {x:t.den} {cs:List Value},bD w γ.I t x cs->cf γ c w (Zp t x) .cells cs:=by
 intro t;induction t with
 | pair a b g f=>intro x cs h;obtain⟨i,j,e,k,l⟩:=h;exact⟨i,j,e,k,f l⟩
 | _=>intro x cs h;exact h
theorem M9{b:Nat->Option bB}{v:aL}{c:List Value}(h:cf γ b w v .cells c):cf γ b w (Zq v) .cells c:=by
 cases v with
 | data t x=>exact WU h
 | _=>exact h
theorem QR{bx:bB}(e:bx.buf=false)(c:Zs bx.val=true):bx.row=none:=by
 unfold bB.row;rw[e];obtain⟨b,tid,f,h,i,g⟩:=bx;cases b with
 | data t x=>cases t<;>first|rfl|cases c
 | mix p q=>rfl
 | _=>cases c
theorem Lm(h:cM B N γ σ a w){b y:Nat}{p:List BV}{n:Nat}{u:aL}{es:List Value}(x:(rA b y p n u σ).run=some bb)(L:cf γ σ.mem w u .cells es)
  (j:es.length=n) {g l:Nat} (z:γ.loc b=some (g,l)) :
  ∃w',(storeCells ⟨g,cC p,none⟩ es).run P w=.ok () w'/\cM B N γ bb a w'/\Ext B γ σ.mem w γ bb.mem w':=by
 unfold rA at x;split at x
 case h_2=>exact absurd x (by intro k;cases k)
 rename_i bx M;obtain⟨O,A⟩:=ay x;simp only[dv,j7] at O;obtain⟨⟨⟨⟨Q,ZG⟩,C⟩,e⟩,D⟩:=O;obtain⟨E,R,F⟩:=bind_some A;obtain⟨m,G⟩:=ay F;obtain⟨c,hs,H⟩:=bind_some G;obtain⟨I,J⟩:=ay H;obtain rfl:=aG J;have o:es.length=cV E:=j.trans (eX m).symm;have K:({ bx with val:=c }:bB).row=bx.row:=(QR (bx:={ bx with val:=c }) e I).trans (QR e D).symm;have i:=h.ok.boxes b bx M;unfold cB at i;rw[e] at i;obtain⟨S,T,f,tid,U,V,W,X,q,Y⟩:=i;rw[z] at V;obtain⟨rfl,rfl⟩:=bk (aG V);obtain⟨k1,k2⟩:=vl (M9 Y) R;have r:cC p+es.length<=f.toList.length:=by rw[o];exact k1
 have s:=cL (P:=P) g (cC p) tid U es 0 f w W X (by simpa using r) (λv hv=>L.one v hv);rw[wL] at s;have t:(aR f.toList (cC p) es).toArray.size=f.size:=by have:=bL r;simpa using this
 obtain⟨m1,Z⟩:=h.ok.write M C z W (cur':=(aR f.toList (cC p) es).toArray) (v:=c) t K
  (λw' dO hx hg=>by
   show cB γ dO w' b { bx with val:=c }
   unfold cB;simp only[e];exact⟨g,l,_,tid,U,z,hg,X.same t,q,by simpa using xN (M9<|Y.ext hx) R hs (L.ext hx) o⟩)
 exact⟨_,s,h.go Z m1,Z⟩
theorem zt{g:TypeId}{b c n:Nat}{v:Value}{h:World}(i:(Go.sizeOf g).run P w=.ok n w)(j:v.cells.toList.length=n)(e:(storeCells ⟨b,c,none⟩ v.cells.toList).run P w=.ok () h) :
  (Instr.storeAt g (.pointer<|some ⟨b,c,none⟩) v).run P w=.ok () h:=by
 have f:v.cells.size=n:=by simpa using j
 simp only[Instr.storeAt,Instr.sureAddr,storeVar,Sem.run_bind,Sem.run_pure,Result.andThen_ok,i,f,ne_eq,not_true_eq_false,pV];exact e
theorem GU(s:fv P cx){bf:List Nat}{O:TypeId}{x y:Operand}(h:cM B N γ σ a w)(F:(lS cx bf O (cu σ x) (cu σ y) σ).run=some bb) :
  ∃w' bM,(Instr.storeAt O (a.eval x)<|a.eval y).run P w=.ok () w'/\cM B N bM bb a w'/\Ext B γ σ.mem w bM bb.mem w':=by
 have hv:=h.cu x;have hy:=h.cu y;unfold lS at F;split at F
 case h_2=>exact absurd F (by intro k;cases k)
 rename_i b R p hx;rw[hx] at hv;split at F
 case h_2=>exact absurd F (by intro k;cases k)
 rename_i bx hb;obtain⟨m,S⟩:=ay F;have m:=eX m;obtain⟨C,hn,D⟩:=bind_some S;obtain⟨U,V,W,o⟩:=bg hb m hv.2;obtain o:a.eval x=_:=by simpa using o
 rw[o];split at D
 .rename_i u z;obtain⟨A,c⟩:=ay D;have A:=iY A;have hD:=s.T _ _ A;cases X:cI bf 8000000&&Zr u (cu σ y) with
  | true =>
    rw[X] at c;have how:=(Bool.and_eq_true_iff.1 X).2;have r:cf γ σ.mem w (cu σ y) .cells (a.eval y).cells.toList:=by
     refine hy.kV (λu' e=>?_) (λe=>?_)
     .rw[e] at how;cases how
     .rw[e] at how;cases how
    have E:cV (cu σ y)=u.size:=by
     unfold Zr at how;split at how
     .rename_i e;rw[e];exact WS how
     .rename_i e;rw[e];exact IZ how
     .cases how
    have f:(a.eval y).cells.toList.length=u.size:=by rw[r.length,E]
    obtain⟨w',G,H,I⟩:=Lm (P:=P) h c r f W;exact⟨w',γ,zt (hD.sizeOf w) f G,H,I⟩
  | false =>
  rw[X] at c;replace c:(match wQ σ u (cu σ y) with|some (y,σ)=>storeAt b R p (WK u) (.data u y) σ|none=>.fail).run=some bb:=c;split at c
  .rename_i y0 bC hg;obtain⟨J,s1,s2,s3⟩:=mS h hy hg;obtain⟨cs,Q,c2⟩:=s3;obtain Y:a.eval y=_:=by simpa using c2
   have K:(a.eval y).cells.toList=cs:=by rw[Y];exact rD Q
   obtain⟨Z,g1,g2,g3⟩:=s2.boxes b bx hb;have hl1:J.loc b=some (U,V):=by
    have hv':Z.aM=bx.aM:=by
     unfold storeAt at c;split at c
     .rename_i bx2 L;rw[g1] at L;obtain rfl:=aG L;obtain⟨s,_⟩:=ay c;simp only[dv] at s;have:=eX s.1.1;omega
     .exact absurd c (by intro k;cases k)
    rw[(g3 hv').1];exact W
   obtain⟨w',G,H,I⟩:=Bo (P:=P) s1 c (u:=.data u y0) (es:=cs) Q (λC g=>by
    unfold WK at g;split at g
    .rename_i t q;obtain rfl:=Ty.eq_of_beq g;exact Q.length
    .cases g) (λbx g i=>by
    unfold WK at g;split at g
    .rename_i t q M;obtain rfl:=Ty.eq_of_beq g;cases t with
     | arr n e=>rw[bB.p6 i M];exact bB.p6 (bx:={ bx with val:=_ }) i rfl
     | _=>unfold bB.row;rw[i,M]
    .cases g) hl1
   refine⟨w',J,zt (hD.sizeOf w) ?_ ?_,H,s2.trans I⟩
   .rw[K];exact Q.length
   .rw[K];exact G
  .exact absurd c (by intro k;cases k)
 .obtain⟨A,c⟩:=ay D;simp only[dv] at A;obtain⟨hrt,l⟩:=A;have key:∀{v:aL},vZ cx O v=true->isRef v=true->cV v=1/\(Go.sizeOf O).run P w=.ok 1 w:=by
   intro v j h2;unfold vZ at j;split at j
   .cases h2
   .split at j
    .rename_i e A;exact⟨rfl,(s.T _ _ A).sizeOf w⟩
    .cases j
   .exact⟨rfl,(s.rb _ j).2.1 w⟩
   .exact⟨rfl,(s.rb _ j).2.1 w⟩
   .exact⟨rfl,(s.rb _ j).2.1 w⟩
   .cases j
  obtain⟨j,E⟩:=key hrt l;have r:cf γ σ.mem w (cu σ y) .cells (a.eval y).cells.toList:=by
   refine hy.kV (λu e=>?_) (λe=>?_)
   .rw[e] at l;cases l
   .rw[e] at l;cases l
  have f:(a.eval y).cells.toList.length=1:=by rw[r.length,j]
  obtain⟨w',G,H,I⟩:=Bo (P:=P) h c r (λC g=>by
   simp only[wJ,dv] at g;rcases g with g|g
   .rw[f,(key g.1 g.2).1]
   .rw[f];cases C<;>first|rfl|cases g) (λbx g i=>by
   simp only[wJ,dv] at g;have e1:∀{v:aL} {bx:bB},(isRef v=true\/VE v=true)->bx.buf=false->bx.val=v->bx.row=none:=by
    intro v bx j h2 h3;unfold bB.row;rw[h2,h3];cases v<;>first|rfl|(rcases j with j|j<;>cases j)
   rw[e1 (g.elim (λq=>.inl q.2) .inr) i rfl];exact e1 (bx:={ bx with val:=cu σ y }) (.inl l) i rfl) W
  exact⟨w',γ,zt E f G,H,I⟩
theorem rj(t:TypeId)(v:Value):(newVar t v).run P w=.ok ⟨w.heap.size,0,none⟩ (w.alloc<|.cells v.cells t):=by
 simp[newVar,newRow]
theorem Ay{e:Nat->Option bB}{f:World}{b:Nat}{bx:bB}{c:Nat}:cf (bF γ b<|some (w.heap.size,c)) (cD e b bx) f (.ptr b bx.aM []) .val [.pointer<|some ⟨w.heap.size,0,none⟩] :=
 ⟨⟨_,rfl,rfl⟩,en (bp _ _) rfl ⟨w.heap.size,c,by simp[bF],rfl⟩⟩
theorem QS(m:fv P cx){c:TypeId}{g k:Nat}{t:Ty}(h:cM B N γ σ a w)(n:k<N)(o:find cx.T c=some t)
  (p:(σ.aQ (g+k) (.data t t.zero) 0 false λe σ=>.ret (σ.put k<|.ptr (g+k) e [])).run=some bb) :
  mP P B N γ σ a w (some k) (Instr.alloc c true<|.tuple #[]) bb:=by
 obtain⟨e,f,i⟩:=dB p;obtain rfl:=aG i;obtain⟨z,q,j⟩:=(m.T _ _ o).zero w;obtain⟨m1,l⟩:=h.ok.newVar (b:=g+k) (v:=.data t t.zero) (tid:=0) f (cs:=z.cells) c (.inl rfl) (by rw[j];exact nJ w γ.I t);refine⟨.pointer<|some ⟨w.heap.size,0,none⟩,_,_,?_,h.step l m1 n Ay,l⟩;simp only[Instr.alloc,Sem.run_bind,q,Result.andThen_ok,rj,Sem.run_pure]
theorem GV(n:fv P cx){c:TypeId}{i k:Nat}(h:cM B N γ σ a w)(o:k<N)(p:cI cx.rb c=true)
  (q:(σ.aQ (i+k) .undef 0 false λf σ=>.ret (σ.put k<|.ptr (i+k) f [])).run=some bb) :
  mP P B N γ σ a w (some k) (Instr.alloc c true<|.tuple #[]) bb:=by
 obtain⟨f,g,j⟩:=dB q;obtain rfl:=aG j;obtain⟨z,l,e⟩:=(n.rb _ p).2.2;have l:=l w;obtain⟨m1,m⟩:=h.ok.newVar (b:=i+k) (v:=.undef) (tid:=0) g (cs:=z.cells) c (.inl rfl) ⟨z,by cases z<;>first|rfl|(simp[Value.oneCell'] at e),e⟩;refine⟨.pointer<|some ⟨w.heap.size,0,none⟩,_,_,?_,h.step m m1 o Ay,m⟩;simp only[Instr.alloc,Sem.run_bind,l,Result.andThen_ok,rj,Sem.run_pure]
theorem QT{b A:Nat}:∀{D:List nG} {j:Nat} {σ:St} {γ:Gh} {r:aL×St},bu B γ σ.mem w->(mkObj b A D j σ).run=some r ->
  ∃c,bu B c r.2.mem w/\Ext B γ σ.mem w c r.2.mem w/\r.2.slots=σ.slots /\
   ∀bM dO w',Ext B c r.2.mem w bM dO w'->(∃bx l n,dO b=some bx/\A<=bx.aM/\bM.loc b=some (l,n))->cf bM dO w' r.1 .cells (IL D):=by
 intro D;induction D with
 | nil=>intro j σ γ r h z;obtain rfl:=aG z;exact⟨γ,h,Ext.refl _ _ _ _,rfl,λ_ _ _ _ _=>rfl⟩
 | cons f r E =>
   intro j σ γ q h z;cases f with
   | zf t =>
     obtain⟨y,o,p⟩:=bind_some z;obtain rfl:=aG p;obtain⟨c,s,g,u,x⟩:=E h o;exact⟨c,s,g,u,λbM dO w' i k=>⟨_,_,rfl,nJ _ _ t,x bM dO w' i k⟩⟩
   | one =>
     obtain⟨y,o,p⟩:=bind_some z;obtain rfl:=aG p;obtain⟨c,s,g,u,x⟩:=E h o;exact⟨c,s,g,u,λbM dO w' i k=>⟨[.pointer none],_,rfl,rfl,x bM dO w' i k⟩⟩
   | self =>
     obtain⟨y,o,p⟩:=bind_some z;obtain rfl:=aG p;obtain⟨c,s,g,u,x⟩:=E h o;refine⟨c,s,g,u,λbM dO w' i k=>⟨[.pointer none],_,rfl,?_,x bM dO w' i k⟩⟩;obtain⟨bx,l,n,J,K,L⟩:=k;exact⟨⟨_,rfl,rfl⟩,bx,J,K,λ_=>⟨l,n,L,.inl rfl⟩⟩
   | buf e F =>
     obtain⟨M,G⟩:=ay z;have H:0<e.size:=by simpa using M
     obtain⟨v,C,I⟩:=dB G;obtain⟨y,o,p⟩:=bind_some I;obtain rfl:=aG p;obtain⟨m1,O⟩:=h.IV (b:=b*1000+999-j) (e:=e) (tid:=F) C H;obtain⟨c,s,g,u,x⟩:=E m1 o;refine⟨c,s,O.trans g,u,λbM dO w' i k=>⟨[.slice none 0 0],_,rfl,?_,x bM dO w' i k⟩⟩;refine cf.ext (g.trans i) (v:=.whole (b*1000+999-j) v) (m:=.cells) ?_;exact⟨⟨_,rfl,rfl⟩,en (bp _ _) rfl ⟨e,0,rfl,rfl,.inl ⟨by simp[bF],rfl⟩⟩⟩
theorem GW(u:fv P cx){b:TypeId}{f k:Nat}{s:List nG}(h:cM B N γ σ a w)(v:k<N)(x:find cx.sS b=some s)
  (y:((mkObj (f+k) (HU σ<|f+k) s 0 σ).bind λr=>r.2.aQ (f+k) r.1 b false λaM σ=>.ret (σ.put k<|.ptr (f+k) aM [])).run=some bb) :
  mP P B N γ σ a w (some k) (Instr.alloc b true<|.tuple #[]) bb:=by
 obtain⟨r,A,C⟩:=bind_some y;obtain⟨g,i,j,D,E⟩:=QT h.ok A;obtain⟨aM,c,l⟩:=dB C;obtain rfl:=aG l;obtain⟨z,F,m⟩:=WO (u.sS _ _ x) w;have n:HU σ (f+k)<=aM:=by
  unfold HU;split
  .rename_i bx o;obtain⟨p,G,I,_⟩:=j.boxes _ bx o;have:=c p G;omega
  .exact mK _
 let bx:bB:={ val:=r.1,tid:=b,buf:=false,ro:=false,lk:=false,aM }
 have t:tX B w (w.alloc<|.cells z.cells b):=(tX.refl _ _).alloc i.base _;have hx:=tw (L:=some (w.heap.size,0)) i (bx:=bx) c t (cw w _);have q:cB (bF g (f+k)<|some (w.heap.size,0)) (cD r.2.mem (f+k) bx) (w.alloc<|.cells z.cells b) (f+k) bx :=
  ⟨w.heap.size,0,z.cells,b,(0,0),by simp[bF],heap_alloc_new w _,sk _,.inr rfl,by
   rw[m];exact E _ _ _ hx ⟨bx,w.heap.size,0,bp _ _,n,by simp[bF]⟩⟩
 have m1:=i.add c t (cw w _) (λH k e=>by obtain⟨rfl,rfl⟩:=bk (aG e);exact⟨bZ _,by simp⟩) q;refine⟨.pointer<|some ⟨w.heap.size,0,none⟩,_,_,?_,?_,j.trans hx⟩
 .simp only[Instr.alloc,Sem.run_bind,F,Result.andThen_ok,rj,Sem.run_pure]
 .have:=h.step (j.trans hx) m1 v (Ay (bx:=bx));rw[<-D] at this;exact this
theorem F7{b j:Nat}{v:aL}{e:St}{r:aL×St}(c:(nH b [] j v e).run=some r):r=(v,e):=by
 cases v with
 | data t x=>cases t<;>first|(obtain rfl:=aG c;rfl)|cases c
 | _=>cases c
theorem Db{b j:Nat}{f:nG}{q:List nG}{v:aL}{g:St}{r:aL×St}(c:(nH b (f::q) j v g).run=some r) :
  (∃x u y,v=.mix x u/\(nH b q (j+1) u g).run=some y/\r=(.mix x y.1,y.2)) \/
  (∃e h u,v=.mix .oq u/\0<e.size/\(g.aQ (b*1000+999-j) (.data (.slice e) []) h true λi g=>(nH b q (j+1) u g).bind λx=>.ret (.mix (.whole (b*1000+999-j) i) x.1,x.2)).run=some r):=by
 cases v with
 | mix a u =>
   cases f with
   | zf t =>
     cases a with
     | data n z =>
       obtain⟨y,k,l⟩:=bind_some (show((nH b q (j+1) u g).bind λx=>.ret (.mix (.data n z) x.1,x.2)).run=some r from c);exact .inl ⟨_,u,y,rfl,k,(aG l).symm⟩
     | _=>cases c
   | one =>
     cases a with
     | dM =>
       obtain⟨y,k,l⟩:=bind_some (show((nH b q (j+1) u g).bind λx=>.ret (.mix .dM x.1,x.2)).run=some r from c);exact .inl ⟨_,u,y,rfl,k,(aG l).symm⟩
     | _=>cases c
   | buf e h =>
     cases a with
     | oq =>
       obtain⟨o,m⟩:=ay c;exact .inr ⟨e,h,u,rfl,by simpa using o,m⟩
     | _=>cases c
   | self=>cases a<;>cases c
 | _=>cases f<;>cases c
theorem GX(r:fv P cx){c:TypeId}{f k:Nat}{A:List Nat}{t:Ty}(h:cM B N γ σ a w)(s:k<N)(u:find cx.T c=some t)
  (m:(tV f A k t σ).run=some bb):mP P B N γ σ a w (some k) (Instr.alloc c true<|.tuple #[]) bb:=by
 unfold tV at m;split at m
 .rename_i e _;obtain⟨C,n⟩:=ay m;have o:0<e.size:=by simpa using C
  obtain⟨v,j,p⟩:=dB n;obtain⟨m1,x⟩:=h.ok.IV (b:=(f+k)*1000+999) (e:=e) (tid:=0) j o;obtain⟨D,g,q⟩:=dB p;obtain rfl:=aG q;obtain⟨i,z,E,J,F,G⟩:=(r.T _ _ u).info;have H:(zeroValue c).run P w=.ok z w:=by simp[zeroValue,typeInfo,E,F]
  have l:cf (bF γ ((f+k)*1000+999) none) (cD σ.mem ((f+k)*1000+999) { val:=.data (.slice e) ([]:List e.den),tid:=0,buf:=true,ro:=false,lk:=false,aM:=v }) w (.whole ((f+k)*1000+999) v) .cells z.cells.toList:=by
   rw[G];exact⟨⟨_,rfl,rfl⟩,en (bp _ _) rfl ⟨e,0,rfl,rfl,.inl ⟨by simp[bF],rfl⟩⟩⟩
  obtain⟨I,y⟩:=m1.newVar (b:=f+k) (v:=.whole ((f+k)*1000+999) v) (tid:=0) g (cs:=z.cells) c (.inl rfl) l;refine⟨.pointer<|some ⟨w.heap.size,0,none⟩,_,_,?_,h.step (x.trans y) I s Ay,x.trans y⟩;simp only[Instr.alloc,Sem.run_bind,H,Result.andThen_ok,rj,Sem.run_pure]
 .exact QS r h s u m
theorem Ln{b:Nat}:∀{n:List nG} {j:Nat} {v:aL} {σ:St} {γ:Gh} {r:aL×St} {cs:List Value},bu B γ σ.mem w->cf γ σ.mem w v .cells cs->(nH b n j v σ).run=some r ->
  ∃c,bu B c r.2.mem w/\Ext B γ σ.mem w c r.2.mem w/\r.2.slots=σ.slots/\cf c r.2.mem w r.1 .cells cs:=by
 intro n;induction n with
 | nil =>
   intro j v σ γ r cs h l o;obtain rfl:=F7 o;exact⟨γ,h,Ext.refl _ _ _ _,rfl,l⟩
 | cons f q I =>
   intro j v σ γ r cs h l o;rcases Db o with ⟨x,u,y,rfl,p,rfl⟩|⟨e,s,u,rfl,K,t⟩
   .obtain⟨z,A,rfl,C,D⟩:=l;obtain⟨c,E,g,F,G⟩:=I h D p;exact⟨c,E,g,F,z,A,rfl,C.ext g,G⟩
   .obtain⟨k,i,H⟩:=dB t;obtain⟨y,p,L⟩:=bind_some H;obtain rfl:=aG L;obtain⟨z,A,rfl,C,D⟩:=l;obtain⟨m1,J⟩:=h.IV (b:=b*1000+999-j) (e:=e) (tid:=s) i K;obtain⟨c,E,g,F,G⟩:=I m1 (D.ext J) p;obtain rfl:z=[.slice none 0 0]:=C;refine⟨c,E,J.trans g,F,[.slice none 0 0],A,rfl,?_,G⟩;refine cf.ext g (v:=.whole (b*1000+999-j) k) (m:=.cells) ?_;exact⟨⟨_,rfl,rfl⟩,en (bp _ _) rfl ⟨e,0,rfl,rfl,.inl ⟨by simp[bF],rfl⟩⟩⟩
theorem Lo{c:TypeId}{i k:Nat}{x:Operand}{n:List nG}(h:cM B N γ σ a w)(o:k<N)(p:cu σ x≠.undef)(q:∀u,cu σ x≠.yC u)
  (s:((nH (i+k) n 0 (cu σ x) σ).bind λr=>r.2.aQ (i+k) r.1 c false λf σ=>.ret (σ.put k<|.ptr (i+k) f [])).run=some bb) :
  mP P B N γ σ a w (some k) (Instr.box c<|a.eval x) bb:=by
 obtain⟨r,t,y⟩:=bind_some s;obtain⟨z,A,l,C,D⟩:=Ln h.ok ((h.cu x).kV q λe=>absurd e p) t;obtain⟨f,g,j⟩:=dB y;obtain rfl:=aG j;obtain⟨m1,m⟩:=A.newVar (b:=i+k) (v:=r.1) (tid:=c) g (cs:=(a.eval x).cells) c (.inr rfl) D;refine⟨.pointer<|some ⟨w.heap.size,0,none⟩,_,_,?_,?_,l.trans m⟩
 .simp only[Instr.box,Sem.run_bind,rj,Result.andThen_ok,Sem.run_pure]
 .have:=h.step (l.trans m) m1 o Ay;rw[<-C] at this;exact this
theorem WV{c:TypeId}{i k:Nat}{x:Operand}(h:cM B N γ σ a w)(m:k<N)(n:cu σ x≠.undef)(o:∀u,cu σ x≠.yC u)
  (p:(σ.aQ (i+k) (cu σ x) 0 false λf σ=>.ret (σ.put k<|.ptr (i+k) f [])).run=some bb) :
  mP P B N γ σ a w (some k) (Instr.box c<|a.eval x) bb:=by
 obtain⟨f,g,j⟩:=dB p;obtain rfl:=aG j;obtain⟨m1,l⟩:=h.ok.newVar (b:=i+k) (v:=cu σ x) (tid:=0) g (cs:=(a.eval x).cells) c (.inl rfl) ((h.cu x).kV o λe=>absurd e n);refine⟨.pointer<|some ⟨w.heap.size,0,none⟩,_,_,?_,h.step l m1 m Ay,l⟩;simp only[Instr.box,Sem.run_bind,rj,Result.andThen_ok,Sem.run_pure]
theorem abK{b:Nat->Option bB}:∀{u v:aL} {k:Nat} {vs:List Value},cf γ b w u .many vs->nth u k=some v->∃x,vs[k]?=some x/\cf γ b w v .val [x]:=by
 intro u;induction u with
 | mix p q g f =>
   intro v k vs h e;obtain⟨c,r,rfl,i,j⟩:=h;cases k with
   | zero=>obtain rfl:=aG e;exact⟨c,rfl,i⟩
   | succ k=>obtain⟨x,l,m⟩:=f j e;exact⟨x,by simpa using l,m⟩
 | _=>intro v k vs h e;exact absurd e (by intro k;cases k)
theorem Lq{x:Operand}{k:Nat}{e v:aL}(h:cM B N γ σ a w)(f:∀k,d=some k->k<N)(g:cu σ x=.yC e)(i:nth e k=some v) :
  mP P B N γ σ a w d (Instr.extract (a.eval x) k) (σ.aW d v):=by
 have hv:=h.cu x;rw[g] at hv;obtain⟨b,c,j⟩:=hv;obtain c:a.eval x=_:=by simpa using c
 obtain⟨y,l,m⟩:=abK j i;refine bG h f (x:=y) ?_ m;rw[c];have:b[k]?=some y:=by simpa using l
 simp only[Instr.extract,this,Sem.run_pure]
theorem I3:∀{ops:List Operand} {cs:List (Nat×Nat)},cM B N γ σ a w->zk (ops.map<|cu σ)=some cs->cs.length=ops.length /\
  ∀(i:Nat) b aM,cs[i]?=some (b,aM)->mO σ.mem b aM λ_=>∃f g,γ.loc b=some (f,g)/\(ops.map a.eval)[i]?=some (.pointer<|some ⟨f,0,none⟩):=by
 intro ops;induction ops with
 | nil=>intro cs h c;obtain rfl:=aG c;exact⟨rfl,λi b aM k=>by cases k⟩
 | cons o r q =>
   intro cs h c;have n:=h.cu o;simp only[tq] at c;unfold zk at c;split at c
   .rename_i j;cases j
   .rename_i E p F j;injection j with s t
    subst t;rw[s] at n;cases l:zk (r.map<|cu σ) with
    | none=>rw[l] at c;cases c
    | some u =>
      rw[l] at c;obtain rfl:=aG c;obtain⟨v,x⟩:=q h l;refine⟨by simp[v],λi b aM k=>?_⟩;cases i with
      | zero =>
        obtain⟨rfl,rfl⟩:=bk (aG k);obtain⟨y,z,A,C⟩:=n.2;refine⟨y,z,A,λe=>?_⟩;obtain⟨f,g,D,m⟩:=C e;obtain m:a.eval o=_:=by simpa using m
        exact⟨f,g,D,by simp[m,cC]⟩
      | succ i =>
        have:=x i b aM (by simpa using k);simpa using this
   .cases c
theorem I4{f:Nat}{c:Array Operand}{n:List (Nat×Nat)}(h:cM B N γ σ a w)(o:∀k,d=some k->k<N)(g:zk (c.toList.map<|cu σ)=some n) :
  Nat.blt f 10000000=true->mP P B N γ σ a w d (Instr.makeFunc (.func f) #[] (c.map a.eval)) (σ.aW d<|.fn f n):=by
 intro p;obtain⟨q,r⟩:=I3 h g;refine bG h o (x:=.func (.func f) #[] (c.map a.eval)) rfl ?_;refine⟨c.map a.eval,by unfold wP;rw[p];rfl,by rw[q];simp,λi b j s=>?_⟩;obtain⟨t,u,v,y⟩:=r i b j s;refine⟨t,u,v,λe=>?_⟩;obtain⟨l,m,z,A⟩:=y e;exact⟨l,m,z,by simpa using A⟩
theorem GY{f:Nat}{x:Operand}{m:List (Nat×Nat)}(h:cM B N γ σ a w)(n:∀k,d=some k->k<N)(c:zk [cu σ x]=some m)(o:Nat.blt f 10000000=true) :
  mP P B N γ σ a w d (Instr.makeFunc (.func f) #[a.eval x] #[]) (σ.aW d<|.fn (f+10000000) m):=by
 obtain⟨p,q⟩:=I3 (ops:=[x]) h c;refine bG h n (x:=.func (.func f) #[a.eval x] #[]) rfl ?_;have r:Nat.blt (f+10000000) 10000000=false:=by
  cases s:Nat.blt (f+10000000) 10000000 with
  | false=>rfl
  | true=>have:=BT s;omega
 refine⟨#[a.eval x],by unfold wP;rw[r,show(f+10000000) % 10000000=f from by have:=BT o;omega];rfl,by simpa using p.symm,λi b g t=>?_⟩;obtain⟨u,v,y,z⟩:=q i b g t;refine⟨u,v,y,λe=>?_⟩;obtain⟨j,l,A,C⟩:=z e;exact⟨j,l,A,by simpa using C⟩
end
end Go.Ge
namespace Go.Ge
open RowKit
def TA(e:Gh)(c:Nat):Gh:={ e with I:=λb o=>e.I b o\/b=c }
theorem bu.adM{B:qM}{j:Gh}{e:Nat->Option bB}{w:World}(h:bu B j e w)(n:Array Value)(p:TypeId) :
  bu B (TA j w.heap.size) e (w.alloc<|.cells n p)/\Ext B j e w (TA j w.heap.size) e (w.alloc<|.cells n p):=by
 have hx:Ext B j e w (TA j w.heap.size) e (w.alloc<|.cells n p) :=
  { below:=(tX.refl _ _).alloc h.base _
    I:=λ_ _ x=>.inl x
    ox:=λc o x=>by
     rcases x with x|x
     .exact .inl x
     .exact .inr (.inl<|by rw[x];exact h.base)
    cells:=λc o x=>di (cw w _ c<|h.sg c o x)
    boxes:=λb m hb=>⟨m,hb,bZ _,λ_=>⟨rfl,rfl,rfl⟩⟩ }
 refine⟨?_,hx⟩;have g:(w.alloc<|.cells n p).heap.size=w.heap.size+1:=by simp
 exact
  { cT:=h.C2 hx
    base:=by rw[g];exact Nat.le_succ_of_le h.base
    boxes:=λb m hb=>(h.boxes b m hb).keep hx rfl λc k l=>cw w _ c (h.fresh b c k (by rw[hb];simp) l).2
    inj:=h.inj
    fresh:=λb c k hb l=>by have:=h.fresh b c k hb l;exact⟨this.1,by rw[g];omega⟩
    sg:=λc i f=>by
     rw[g];rcases f with f|f
     .have:=h.sg c i f;omega
     .omega
    sep:=λb m c k i hb l f=>by
     rcases f with f|f
     .exact h.sep b m c k i hb l f
     .have:=(h.fresh b c k (by rw[hb];simp) l).2;omega }
theorem I5(b:Nat):∀(l:List Value) (k:Nat) (cells:Array Value),b+k+l.length<=cells.size ->
  (l.zipIdx k).foldl (λcs (x:Value×Nat)=>cs.setIfInBounds (b+x.2) x.1) cells=(aR cells.toList (b+k) l).toArray
 | [],k,cells,h=>by simp[aR]
 | v::r,k,cells,h=>by
   simp only[List.zipIdx_cons,Qt];rw[I5 b r (k+1) _<|by simp at h⊢;omega];have e:=list_seg_step cells.toList (b+k) v r (by simp at h⊢;omega)
   congr 1
   simpa [aR,ac0,xF] using e
theorem Az{e:Nat->Option (Nat×Nat)}{b:Array Value}{i f c:Nat}{v:Value}{g:List (Nat×Value)}(k:e i=some (f,c))(j:v.cells.toList.length=c)
  (l:f+c<=b.size):Instr.fill e b ((i,v)::g)=Instr.fill e (aR b.toList f v.cells.toList).toArray g:=by
 have h:v.cells.size=c:=by simpa using j
 have m:(v.cells.size≠c||f+v.cells.size > b.size)=false:=by
  simp only[vW,GK];constructor
  .simp[h]
  .omega
 simp only[Instr.fill,k];rw[m];simp only[Is,pV]
 congr 1
 rw[<-Array.foldl_toList,Array.toList_zipIdx];have:=I5 f v.cells.toList 0 b (by rw[j];omega);simpa using this
theorem TB{w:World}{I:Nat->Nat->Prop}{u:Ty}{y:u.den}{f:List Value}(p:bD w I u y f):∀{t:Ty} {x g:t.den} {cs:List Value} {k o:Nat},
  bD w I t x cs->jJ t k=some o->IA t x k u y=some g->bD w I t g (aR cs o f)/\o+f.length<=cs.length:=by
 intro t;induction t with
 | pair a b A i =>
   intro x g cs k o h c e;obtain⟨j,r,rfl,l,s⟩:=h;cases k with
   | zero =>
     simp only[jJ,sa] at c;subst c;simp only[IA] at e;split at e
     .rename_i G C;obtain⟨q,D⟩:=Ty.kR C;subst q;subst D;obtain rfl:=aG e;have m:f.length=j.length:=by rw[p.length,l.length]
      refine⟨⟨f,r,?_,p,s⟩,by rw[gI];omega⟩;simp only[aR,MW,sd,qI];rw[m,Bb]
     .cases e
   | succ k =>
     simp only[jJ] at c;cases n:jJ b k with
     | none=>rw[n] at c;cases c
     | some v =>
       rw[n] at c;simp only[EG,sa] at c;simp only[IA] at e;split at e
       .rename_i z E;obtain rfl:=aG e;obtain⟨F,H⟩:=i s n E;have m:=l.length;refine⟨⟨j,aR r v f,?_,l,F⟩,by rw[gI];omega⟩;subst c;rw[<-m];simp only[aR];first
         | (rw[Vj,kP,kP,xF,<-vb,Bb];simp[kP];done)
         | (rw[Vz v j.length,Vj,kP,kP,xF,<-vb,Bb];simp[kP])
       .cases e
 | _=>intro x g cs k o h c;cases k<;>simp[jJ] at c
theorem GZ:∀{t:Ty} {k:Nat} {u:Ty},uf t k=some u->∃o,jJ t k=some o:=by
 intro t;induction t with
 | pair a b e c =>
   intro k u h;cases k with
   | zero=>exact⟨0,rfl⟩
   | succ k =>
     obtain⟨o,f⟩:=c (show uf b k=some u from h);simp only[jJ,f];exact⟨_,rfl⟩
 | _=>intro k u h;cases k<;>cases h
section
variable {P:Program} {B:qM} {N:Nat} {γ:Gh} {σ bb:St} {a:Act} {w:World} {d:Option Nat} {cx:Ctx}
theorem EU{place:Nat->Option (Nat×Nat)}{t:Ty}(m:∀k u o,uf t k=some u->jJ t k=some o->place k=some (o,u.size)) :
  ∀{parts:List (Nat×Operand)} {x l:t.den} {cells:Array Value} {σ bb:St} {γ:Gh},cM B N γ σ a w->bD w γ.I t x cells.toList->gr σ t x parts=some (l,bb) ->
   ∃b bM,Instr.fill place cells (parts.map λp=>(p.1,a.eval p.2))=some b/\cM B N bM bb a w/\Ext B γ σ.mem w bM bb.mem w/\bD w bM.I t l b.toList:=by
 intro parts;induction parts with
 | nil =>
   intro x l cells σ bb γ h n c;obtain⟨rfl,rfl⟩:=bk (aG c);exact⟨cells,γ,rfl,h,Ext.refl _ _ _ _,n⟩
 | cons p r E =>
   obtain⟨k,o⟩:=p;intro x l cells σ bb γ h n c;simp only[gr] at c;split at c
   .rename_i u A;split at c
    .rename_i y bC F;split at c
     .rename_i R q;obtain⟨G,H,s,C,v,J⟩:=mS h (h.cu o) F;obtain f:a.eval o=_:=by simpa using J
      have g:(a.eval o).cells.toList=C:=by rw[f];exact rD v
      obtain⟨i,e⟩:=GZ A;obtain⟨K,D⟩:=TB v (bD.mono s.I s.cells n) e q;have j:=v.length;obtain⟨b,z,L,M,O,Q⟩:=E (cells:=(aR cells.toList i C).toArray) H (by simpa using K) c;refine⟨b,z,?_,M,s.trans O,Q⟩;simp only[tq];rw[Az (m k u i A e) (by rw[g];exact j)<|by rw[j] at D;simpa using D,g];exact L
     .cases c
    .cases c
   .cases c
theorem yH{n:Nat}{e:Ty}{place:Nat->Option (Nat×Nat)}(u:∀k,place k=some (k*e.size,e.size)) :
  ∀{parts:List (Nat×Operand)} {l s:List e.den} {cells:Array Value} {σ bb:St} {γ:Gh},cM B N γ σ a w->bD w γ.I (.arr n e) l cells.toList->fm σ e l parts=some (s,bb) ->
   ∃b bM,Instr.fill place cells (parts.map λp=>(p.1,a.eval p.2))=some b/\cM B N bM bb a w/\Ext B γ σ.mem w bM bb.mem w/\bD w bM.I (.arr n e) s b.toList:=by
 intro parts;induction parts with
 | nil =>
   intro l s cells σ bb γ h v c;obtain⟨rfl,rfl⟩:=bk (aG c);exact⟨cells,γ,rfl,h,Ext.refl _ _ _ _,v⟩
 | cons p r J =>
   obtain⟨k,o⟩:=p;intro l s cells σ bb γ h v c;simp only[fm] at c;split at c
   .rename_i y bC K;cases f:Nat.blt k l.length with
    | false=>rw[f] at c;cases c
    | true =>
      rw[f] at c;simp only[ev] at c;have F:k<l.length:=by simpa using f
      obtain⟨x,L,z,t,A,M⟩:=mS h (h.cu o) K;obtain j:a.eval o=_:=by simpa using M
      have m:(a.eval o).cells.toList=t:=by rw[j];exact rD A
      obtain⟨G,C,O⟩:=bD.mono z.I z.cells v;have D:l.length=n:=G;have g:=A.length;have H:(k+1)*e.size<=n*e.size:=gb _ (by omega);rw[zg] at H;have i:k*e.size+t.length<=cells.toList.length:=by rw[g,C];exact H
      have q:bD w x.I (.arr n e) (l.set k y) (aR cells.toList (k*e.size) t) :=
       ⟨(@List.length_set _ l _ _).trans G,by rw[bL i];exact C,IQ D (by rw[C];exact bZ _) O (by omega) A⟩
      obtain⟨b,E,Q,R,S,T⟩:=J (cells:=(aR cells.toList (k*e.size) t).toArray) L (by simpa using q) c;refine⟨b,E,?_,R,z.trans S,T⟩;simp only[tq];rw[Az (u k) (by rw[m];exact g)<|by rw[g] at i;simpa using i,m];exact Q
   .cases c
theorem pS.places{t:Ty}:∀{off:Nat} {e:List Field},pS P t off e->∃c:List (Nat×Nat),e.mapM (λf=>(P.info? f.type).map λi=>(f.offset,i.size))=some c /\
  ∀k u o,uf t k=some u->jJ t k=some o->c[k]?=some (off+o,u.size):=by
 induction t with
 | pair a b n l =>
   intro off e h;obtain⟨f,r,rfl,p,E,q,F,s⟩:=h.cons;obtain⟨v,x,y⟩:=l s;obtain⟨i,z,A,C,_⟩:=q.info;refine⟨(f.offset,i.size)::v,by simp[A,x],λk u o j g=>?_⟩;cases k with
   | zero =>
     simp only[uf,jJ,sa] at j g;subst j g;simp[p,C]
   | succ k =>
     simp only[uf,jJ] at j g;cases m:jJ b k with
     | none=>rw[m] at g;cases g
     | some D =>
       rw[m] at g;simp only[EG,sa] at g;have:=y k u D j m;rw[Qj,this]
       congr 2;omega
 | unit =>
   intro off e h;cases e with
   | nil=>exact⟨[],rfl,λk u o j=>by cases k<;>cases j⟩
   | cons f r=>simp[pS,eZ] at h
 | _=>intro off e h;cases e<;>simp[pS,eZ] at h
theorem F8{g:Nat->Option bB}:∀{c:List nG} {v:aL},rC c=some v->cf γ g w v .cells (IL c):=by
 intro c;induction c with
 | nil=>intro v h;obtain rfl:=aG h;rfl
 | cons f r j =>
   intro v h;cases f with
   | zf t =>
     simp only[rC] at h;split at h
     .rename_i u b;obtain rfl:=aG h;exact⟨_,_,rfl,nJ _ _ t,j b⟩
     .cases h
   | buf e i =>
     simp only[rC] at h;split at h
     .rename_i u b;obtain rfl:=aG h;exact⟨[.slice none 0 0],_,rfl,rfl,j b⟩
     .cases h
   | one =>
     simp only[rC] at h;split at h
     .rename_i u b;obtain rfl:=aG h;exact⟨[.pointer none],_,rfl,rfl,j b⟩
     .cases h
   | self=>cases h
theorem zu{place:Nat->Option (Nat×Nat)}{q:List nG}(s:∀k o f,xI q k=some o->q[k]?=some f->place k=some (o,f.size))(h:cM B N γ σ a w) :
  ∀{parts:List (Nat×Operand)} {v m:aL} {cells:Array Value},cf γ σ.mem w v .cells cells.toList->mN σ q v parts=some m ->
   ∃b,Instr.fill place cells (parts.map λp=>(p.1,a.eval p.2))=some b/\cf γ σ.mem w m .cells b.toList:=by
 intro parts;induction parts with
 | nil=>intro v m cells n c;obtain rfl:=aG c;exact⟨cells,rfl,n⟩
 | cons p r G =>
   obtain⟨k,x⟩:=p;intro v m cells n c;simp only[mN] at c;split at c
   case h_2=>cases c
   rename_i o t R H f E J A;cases g:Nat.beq o H&&Nat.beq t.size f.size with
   | false=>rw[g] at c;cases c
   | true =>
     rw[g] at c;simp only[ev] at c;simp only[dv] at g;obtain rfl:=eX g.1;have i:=eX g.2;split at c
     case h_2=>cases c
     rename_i y j;split at c
     case h_2=>cases c
     rename_i S C;have hx:cf γ σ.mem w (cu σ x) .cells (a.eval x).cells.toList:=(h.cu x).kV (λu e=>by rw[e] at j;cases j) (λe=>by rw[e] at j;cases j);have l:bD w γ.I t y (a.eval x).cells.toList:=H2 j hx;obtain⟨K,_⟩:=ET n E;have D:o+t.size<=cells.toList.length:=K;have F:(a.eval x).cells.toList.length=t.size:=l.length;have L:=IP (f:=λ_=>.ret (.data t y)) n E (λz M=>by obtain rfl:=aG M;exact l) C F;obtain⟨b,O,Q⟩:=G (cells:=(aR cells.toList o (a.eval x).cells.toList).toArray) (by simpa using L) c;refine⟨b,?_,Q⟩;simp only[tq];rw[Az (s k o f J A) (by rw[F];exact i)<|by rw[<-i];simpa using D];exact O
theorem G0(r:fv P cx){t:TypeId}{g:List nG}{j p q:aL}{b:Array (Nat×Operand)}(h:cM B N γ σ a w)(s:∀k,d=some k->k<N)(u:find cx.sS t=some g)
  (l:rC g=some j) (y:mN σ g j b.toList=some (.mix p q)) :
  mP P B N γ σ a w d (Instr.build t<|b.map λ(i,x)=>(i,a.eval x)) (σ.aW d<|.mix p q):=by
 have n:=r.sS _ _ u;simp only[IM,dv] at n;obtain⟨m,A⟩:=n;obtain⟨i,z,C,T,D,E⟩:=jL A;split at m
 case h_2=>cases m
 rename_i U F;obtain⟨G,H,I⟩:=C4 m;obtain⟨c,J,K,L,M,O,Q⟩:=zu (place:=λk=>G.toArray[k]?) (λk o f R S=>by have:=I k o f R S;simpa using this) h
  (v:=j) (cells:=z.cells) (by rw[E];exact F8 l) y
 have e:(Instr.build t<|b.map λ(i,x)=>(i,a.eval x)).run P w=.ok (.agg c) w:=by
  refine run_build w t _ _ ?_;unfold Program.built;simp only[C,F,D,H];simpa using J
 exact bG h s e ⟨K,L,by rw[<-M],O,Q⟩
theorem EV(q:fv P cx){t:TypeId}{j:List nG}{l:aL}{u:Ty.unit.den}{c:Array (Nat×Operand)}(h:cM B N γ σ a w)(r:∀k,d=some k->k<N)(s:find cx.sS t=some j)
  (m:rC j=some l) (y:mN σ j l c.toList=some (.data .unit u)) :
  mP P B N γ σ a w d (Instr.build t<|c.map λ(i,x)=>(i,a.eval x)) (σ.aW d<|.data .unit ()):=by
 have p:=q.sS _ _ s;simp only[IM,dv] at p;obtain⟨n,A⟩:=p;obtain⟨i,z,C,O,D,E⟩:=jL A;split at n
 case h_2=>cases n
 rename_i Q F;obtain⟨G,H,I⟩:=C4 n;obtain⟨b,J,K⟩:=zu (place:=λk=>G.toArray[k]?) (λk o f L M=>by have:=I k o f L M;simpa using this) h
  (v:=l) (cells:=z.cells) (by rw[E];exact F8 m) y
 have g:(Instr.build t<|c.map λ(i,x)=>(i,a.eval x)).run P w=.ok (.agg b) w:=by
  refine run_build w t _ _ ?_;unfold Program.built;simp only[C,F,D,H];simpa using J
 have e:b.toList=[]:=K;exact bG h r g ⟨[],rfl,by rw[show b=#[] from Qz e];rfl⟩
theorem B3(g:fv P cx){t:TypeId}{u v:Ty}{b:Array (Nat×Operand)}{x:(Ty.pair u v).den}(h:cM B N γ σ a w)(j:∀k,d=some k->k<N)(l:find cx.T t=some (.pair u v))
  (m:gr σ (.pair u v) (Ty.pair u v).zero b.toList=some (x,bb)) :
  mP P B N γ σ a w d (Instr.build t<|b.map λ(i,x)=>(i,a.eval x)) (bb.aW d<|.data (.pair u v) x):=by
 have f:=g.T _ _ l;obtain⟨K,n,p,_⟩:=f.pair;obtain⟨q,r,s⟩:=p.places;obtain⟨i,z,y,L,A,C⟩:=f.info;obtain⟨c,bM,D,E,F,G⟩:=EU (place:=λk=>q.toArray[k]?) (λk u o H J=>by have:=s k u o H J;simpa using this) h
  (x:=(Ty.pair u v).zero) (cells:=z.cells) (by rw[C];exact nJ w γ.I _) m
 have e:(Instr.build t<|b.map λ(i,x)=>(i,a.eval x)).run P w=.ok (.agg c) w:=by
  refine run_build w t _ _ ?_;unfold Program.built;simp only[y,n,A,r];simpa using D
 exact⟨_,_,bM,e,E.ur j ⟨_,G,rfl⟩,by cases d<;>exact F⟩
theorem Dc(m:fv P cx){t:TypeId}{n:Nat}{e:Ty}{b:Array (Nat×Operand)}{l:List e.den}(h:cM B N γ σ a w)(o:∀k,d=some k->k<N)(p:find cx.T t=some (.arr n e))
  (q:fm σ e (List.replicate n e.zero) b.toList=some (l,bb)) :
  mP P B N γ σ a w d (Instr.build t<|b.map λ(i,x)=>(i,a.eval x)) (bb.aW d<|.data (.arr n e) l):=by
 have g:=m.T _ _ p;obtain⟨r,s,u,J⟩:=g.arr;obtain⟨j,K,v,y,L,M⟩:=u.info;obtain⟨i,z,A,O,C,D⟩:=g.info;obtain⟨c,bM,E,F,G,H⟩:=yH (n:=n) (place:=λk=>some (k*j.size,j.size)) (λk=>by rw[y]) h
  (l:=List.replicate n e.zero) (cells:=z.cells) (by rw[D];exact nJ w γ.I (.arr n e)) q
 have f:(Instr.build t<|b.map λ(i,x)=>(i,a.eval x)).run P w=.ok (.agg c) w:=by
  refine run_build w t _ _ ?_;unfold Program.built;simp only[A,s,C,v];simpa using E
 exact⟨_,_,bM,f,F.ur o ⟨_,H,rfl⟩,by cases d<;>exact G⟩
theorem uw{e:Ty}{z:Value}(h:z.cells.toList=eP e)(i:0<e.size)(n:Nat):(madeCells z.cells<|n*e.size).toList=eP (.arr n e):=by
 have c:z.cells.size=e.size:=by rw[<-dQ e,<-h];simp
 apply Lj;intro j;have hlen:(eP<|.arr n e).length=n*e.size:=by rw[dQ];rfl
 rcases tr j (n*e.size) with f|f
 .have l:(madeCells z.cells<|n*e.size).toList[j]?=some (z.cells[j % z.cells.size]!):=by simp[madeCells,f]
  rw[l];have hdiv:j / e.size<n:=by rw[Vn i];exact f
  have k:=eL (eP e) n (j / e.size) hdiv;rw[dQ] at k;have b:=wM j i;have g:j / e.size*e.size+j % e.size=j:=by rw[Vy];exact Qs j e.size
  have m:(eP<|.arr n e)[j]?=(eP e)[j % e.size]?:=by
   conv=>rhs;rw[<-k]
   rw[fA,aV b,mF,g];rfl
  rw[m,<-h,c];have o:j % e.size<z.cells.size:=by omega
  simp[o]
 .rw[Oh<|by simp[madeCells];omega,Oh (by omega)]
theorem OC{w:World}{I:Nat->Nat->Prop}{e:Ty}{n:Nat}{l:List e.den}{b:Array Value}{t:TypeId}{f:Nat}{q:Nat×Nat}(h:bD w I (.arr n e) l b.toList)(r:w.heap[f]?=some (.cells b t q))
  (s:∀o,I f o) (u:n<=maxLen):bD w I (.slice e) l [.slice (some ⟨f,0,none⟩) n n]:=by
 obtain⟨v,A,y⟩:=h;have g:l.length=n:=v;refine .inr ⟨f,0,n,by rw[<-g],by rw[<-g];exact bZ _,u,λi x z=>?_⟩;have k:l[i]?=some x:=z;have hi:i<n:=by have:=(fU.1 k).1;omega
 have p:=y i x k;refine⟨_,p.length,λj c m=>⟨?_,s _⟩,p⟩;rw[cell_of_heap r];rw[fA] at m;split at m
 .rw[mF] at m;rw[qI];simpa using m
 .cases m
theorem zv(z:fv P cx){t:TypeId}{n:Nat}{e:Ty}{c:Array (Nat×Operand)}{l:List e.den}(h:cM B N γ σ a w)(A:find cx.T t=some (.slice e))
  (L:n*e.size<=65536) (C:fm σ e (List.replicate n e.zero) c.toList=some (l,bb)) :
  ∃b bM f,0<e.size/\cM B N bM bb a w/\Ext B γ σ.mem w bM bb.mem w/\bD w bM.I (.arr n e) l b.toList /\
   (Instr.buildSlice t n<|c.map λ(i,x)=>(i,a.eval x)).run P w=.ok (.slice (some ⟨w.heap.size,0,none⟩) n n) (w.alloc<|.cells b f):=by
 have D:=z.T _ _ A;obtain⟨f,r,E,M,s⟩:=D.slice;obtain⟨j,m,u,o,v,F⟩:=E.info;obtain⟨b,bM,y,G,H,J⟩:=yH (n:=n) (place:=λk=>some (k*j.size,j.size)) (λk=>by rw[o]) h
  (l:=List.replicate n e.zero) (cells:=madeCells m.cells (n*e.size)) (by rw[uw F s];exact nJ w γ.I (.arr n e)) C
 refine⟨b,bM,f,s,G,H,J,?_⟩;have g:Instr.fill (λi=>some (i*j.size,j.size)) (madeCells m.cells<|n*j.size) (c.map λ(i,x)=>(i,a.eval x)).toList=some b:=by rw[o] at y⊢;simpa using y
 by_cases p:n*j.size=0
 .have q:madeCells m.cells (n*j.size)=#[]:=by rw[p];simp[madeCells]
  rw[q] at g;simp only[MU] at g;simp[Instr.buildSlice,run_underlying r,Go.sizeOf,typeInfo,zeroValue,u,v,p,newRow];have K:(Array.map (λx:Nat=>(default:Value))<|Array.range 0)=#[]:=by simp[Array.range]
  rw[K,g];rfl
 .exact run_buildSlice w t f n _ b j m r u v (by rw[o];omega) p g
theorem EW(q:fv P cx){t:TypeId}{n:Nat}{e:Ty}{b:Array (Nat×Operand)}{l:List e.den}(h:cM B N γ σ a w)(r:∀k,d=some k->k<N)(s:find cx.T t=some (.slice e))
  (j:Nat.ble (n*e.size) 65536=true) (u:fm σ e (List.replicate n e.zero) b.toList=some (l,bb)) :
  mP P B N γ σ a w d (Instr.buildSlice t n<|b.map λ(i,x)=>(i,a.eval x)) (bb.aW d<|.data (.slice e) l):=by
 have j:n*e.size<=65536:=BT j;obtain⟨c,bM,m,y,p,z,A,f⟩:=zv (n:=n) q h s j u;obtain⟨m1,g⟩:=p.ok.adM c m;refine⟨_,_,_,f,p.aW g m1 r (v:=.data (.slice e) l) ⟨[.slice (some ⟨w.heap.size,0,none⟩) n n],?_,rfl⟩,by cases d<;>exact z.trans g⟩;refine OC (bD.mono g.I g.cells A) (heap_alloc_new w _) (λo=>.inr rfl) ?_;have:n*1<=n*e.size:=Nat.mul_le_mul_left _ y;have:(65536:Nat)<=maxLen:=by decide
 omega
theorem I6(A:fv P cx){t:TypeId}{n:Nat}{e:Ty}{c:Array (Nat×Operand)}{l:List e.den}{p k:Nat}{g:St}(h:cM B N γ σ a w)(C:k<N)(D:find cx.T t=some (.slice e))
  (q:Nat.ble (n*e.size) 65536=true) (E:fm σ e (List.replicate n e.zero) c.toList=some (l,g))
  (F:(g.aQ (p+k) (.data (.slice e) l) 0 true λaM σ=>.ret (σ.put k<|.whole (p+k) aM)).run=some bb) :
  mP P B N γ σ a w (some k) (Instr.buildSlice t n<|c.map λ(i,x)=>(i,a.eval x)) bb:=by
 have q:n*e.size<=65536:=BT q;obtain⟨f,bM,r,y,s,G,H,j⟩:=zv (n:=n) A h D q E;obtain⟨aM,m,u⟩:=dB F;obtain rfl:=aG u;obtain⟨o,I,J⟩:=H;have o:l.length=n:=o;have v:n<=maxLen:=by
  have:n*1<=n*e.size:=Nat.mul_le_mul_left _ y;have:(65536:Nat)<=maxLen:=by decide
  omega
 obtain⟨K,z⟩:=s.ok.IU (w':=w.alloc (.cells f r)) (b:=p+k) (e:=e) (l:=l) (tid:=0) (aM:=aM) (cap:=n) m y
  ((tX.refl _ _).alloc s.ok.base _) (cw w _) (heap_alloc_new w _) (uu _ _) (.inl rfl) (zh o) v (by simpa using I) J
 refine⟨_,_,_,j,s.step z K C ?_,G.trans z⟩;exact⟨⟨_,rfl,rfl⟩,en (bp _ _) rfl ⟨e,n,rfl,by rw[<-o];rfl,.inr ⟨w.heap.size,n,by simp[bF],rfl⟩⟩⟩
theorem OD{b:Type}{l r:List b}{c:b}{j:Nat}(h:l.length=j):(l++([c]++r)).take (j+1)=l++[c]:=by
 subst h;rw[List.take_append,A8 (by omega)];simp
theorem OE{place:Nat->Option (Nat×Nat)}(C:∀k,place k=some (k,1))(h:cM B N γ σ a w) :
  ∀{parts:List (Nat×Operand)} {k:Nat} {v:aL} {cells:Array Value},cells.size=k+parts.length->zl σ k parts=some v ->
   ∃g:List Value,Instr.fill place cells (parts.map λp=>(p.1,a.eval p.2))=some (cells.toList.take k++g).toArray/\cf γ σ.mem w v .cells g:=by
 intro parts;induction parts with
 | nil =>
   intro k v cells A m;obtain rfl:=aG m;refine⟨[],?_,rfl⟩;have:cells.toList.take k=cells.toList:=A8 (by simp only[eG,wL] at A;simp[A]);rw[this];simp[Instr.fill]
 | cons p r H =>
   obtain⟨j,x⟩:=p;intro k v cells A m;simp only[zl] at m;cases D:Nat.beq j k with
   | false=>rw[D] at m;cases m
   | true =>
     rw[D] at m;simp only[ev] at m;obtain rfl:=eX D;simp only[dh] at A;have key:∀(u o:aL) (c:Value),(∀t,u≠.yC t)->u≠.undef->cu σ x=u->zl σ (j+1) r=some o->v=.mix u o->(a.eval x).cells.toList=[c] ->
       ∃g:List Value,Instr.fill place cells (((j,x)::r).map λp=>(p.1,a.eval p.2))=some (cells.toList.take j++g).toArray/\cf γ σ.mem w v .cells g:=by
      intro u o c I J n i E l;have hx:=h.cu x;rw[n] at hx;have s:=hx.kV I (λe=>absurd e J);have hlen:(aR cells.toList j [c]).length=cells.toList.length:=bL (by simp;omega);obtain⟨g,K,L⟩:=H (k:=j+1) (cells:=(aR cells.toList j [c]).toArray) (by simp only[GM,hlen,Ip];omega) i;have M:(aR cells.toList j [c]).take (j+1)=cells.toList.take j++[c]:=by
       have:(cells.toList.take j).length=j:=by rw[fT,Ip];omega
       simp only[aR];rw[kP,OD this]
      refine⟨c::g,?_,?_⟩
      .simp only[tq];rw[Az (C j) (by rw[l];rfl)<|by omega,l,K];rw[M];simp
      .rw[E];exact⟨[c],g,rfl,by rw[l] at s;exact s,L⟩
     split at m
     .rename_i o n i;obtain rfl:=aG m;have hx:=h.cu x;rw[n] at hx;obtain hx:a.eval x=_:=by simpa [cf] using hx
      exact key .dM o (.pointer none) (λt e=>by cases e) (λe=>by cases e) n i rfl (by rw[hx];rfl)
     .rename_i b F q o n i;obtain rfl:=aG m;have hx:=h.cu x;rw[n] at hx;obtain⟨⟨y,O,G⟩,_⟩:=hx;obtain rfl:a.eval x=y:=by simpa using O
      refine key (.ptr b F q) o (a.eval x) (λt e=>by cases e) (λe=>by cases e) n i rfl ?_;generalize a.eval x=y at G⊢;cases y<;>first|rfl|(simp[Value.oneCell'] at G)
     .rename_i f c o n i;obtain rfl:=aG m;have hx:=h.cu x;rw[n] at hx;obtain⟨z,hx,_,_⟩:=hx;obtain hx:a.eval x=_:=by simpa using hx
      exact key (.fn f c) o (wP f z) (λt e=>by cases e) (λe=>by cases e) n i rfl (by rw[hx];exact F2 f z)
     .cases m
theorem Lr(y:fv P cx){t:TypeId}{A n:Nat}{c:Array (Nat×Operand)}(h:cM B N γ σ a w)(G:∀k,d=some k->k<N)
  (p:(Av cx A d t n c.toList σ).run=some bb):mP P B N γ σ a w d (Instr.buildSlice t n<|c.map λ(i,x)=>(i,a.eval x)) bb:=by
 unfold Av at p;split at p
 case h_2=>cases p
 rename_i k e v H I;obtain⟨C,r⟩:=ay p;simp only[dv] at C;obtain⟨⟨J,K⟩,s⟩:=C;obtain rfl:=eX J;have L:0<c.toList.length:=by simpa using K
 have D:c.toList.length<=64:=BT s;obtain⟨M,O⟩:=xP y H;obtain⟨_,Q,z,R,_⟩:=y.rb _ O;obtain⟨f,E,q⟩:∃f,P.info? e=some f/\f.size=1:=by
  have:=Q w;cases hi:P.info? e with
  | none=>simp[Go.sizeOf,typeInfo,hi] at this
  | some f=>simp[Go.sizeOf,typeInfo,hi] at this;exact⟨f,rfl,this⟩
 obtain⟨g,S⟩:∃g,f.zero=some g:=by
  have:=R w;cases hi:f.zero with
  | none=>simp[zeroValue,typeInfo,E,hi] at this
  | some g=>exact⟨g,rfl⟩
 obtain⟨T,l,u⟩:=dB r;obtain rfl:=aG u;obtain⟨m,U,V⟩:=OE (place:=λi=>some (i*f.size,f.size)) (λj=>by rw[q];simp) h (k:=0) (cells:=(Array.range<|c.toList.length*f.size).map (g.cells[· % g.cells.size]!)) (by simp[q]) I;have o:=run_buildSlice w t e c.toList.length (c.map λ(i,x)=>(i,a.eval x)) _ f g M E S (by rw[q];omega) (by rw[q];omega) (by rw[MU];exact U);obtain⟨m1,F⟩:=h.ok.newVar (b:=A+k) (v:=v) (tid:=0) l (cs:=((((Array.range<|c.toList.length*f.size).map (g.cells[· % g.cells.size]!)).toList.take 0)++m).toArray) e (.inl rfl) (by simpa using V);refine⟨_,_,_,o,h.step F m1 (G k rfl) ?_,F⟩;refine⟨⟨_,rfl,rfl⟩,en (bp _ _) rfl ⟨by simp,w.heap.size,0,by simp[bF],by omega,by omega,by omega,_,_,rfl,by simp,.inr ?_⟩⟩;simp[cC]
theorem EX(p:fv P cx){t:TypeId}{e:Ty}{j k:Nat}(h:cM B N γ σ a w)(q:k<N)(r:find cx.T t=some (.slice e))
  (s:(σ.aQ (j+k) (.data (.slice e) ([]:List e.den)) 0 true λaM σ=>.ret (σ.put k<|.whole (j+k) aM)).run=some bb) :
  mP P B N γ σ a w (some k) (Instr.buildSlice t 0 #[]) bb:=by
 obtain⟨c,u,v,E,y⟩:=(p.T _ _ r).slice;obtain⟨F,G,A,H,C,I⟩:=v.info;obtain⟨aM,f,m⟩:=dB s;obtain rfl:=aG m;have g:(Instr.buildSlice t 0 #[]).run P w=.ok (.slice (some ⟨w.heap.size,0,none⟩) 0 0) (w.alloc<|.cells #[] c):=by
  simp[Instr.buildSlice,run_underlying u,Go.sizeOf,typeInfo,zeroValue,A,C,newRow,Instr.fill];have n:(Array.map (λx:Nat=>(default:Value))<|Array.range 0)=#[]:=by simp[Array.range]
  rw[n]
 obtain⟨D,o⟩:=h.ok.IU (w':=w.alloc (.cells #[] c)) (b:=j+k) (e:=e) (l:=([]:List e.den)) (tid:=0) (aM:=aM) (cap:=0) f y
  ((tX.refl _ _).alloc h.ok.base _) (cw w _) (heap_alloc_new w _) (uu _ _) (.inl rfl) (bZ _) (mK _) (by simp) (λi z n=>by cases n)
 refine⟨_,_,_,g,h.step o D q ?_,o⟩;exact⟨⟨_,rfl,rfl⟩,en (bp _ _) rfl ⟨e,0,rfl,rfl,.inr ⟨w.heap.size,0,by simp[bF],rfl⟩⟩⟩
end
end Go.Ge
namespace Go.Ge
open RowKit
section
variable {P:Program} {B:qM} {N:Nat} {γ:Gh} {σ bb:St} {a:Act} {w w':World} {d:Option Nat} {cx:Ctx}
theorem B4:(4294967296:Nat)<=maxLen:=by decide
theorem Dd{n:Nat}(h:fits (n:Int)=true):n<=4294967296:=by simp[fits] at h;omega
theorem zw{b:TypeId}{e:TypeInfo}(c:ER P b=true)(f:P.info? b=some e):e.bytes<=32768:=by
 unfold ER at c;rw[f] at c;exact BT c
theorem wZ{mem:Nat->Option bB}{b cap blk:Nat}{bx:bB}{e:Ty}{n:Nat}(c:bx.buf=true)(f:bx.row=some (e,n)) :
  cf (bF γ b<|some (blk,cap)) (cD mem b bx) w' (.whole b bx.aM) .val [.slice (some ⟨blk,0,none⟩) n cap] :=
 ⟨⟨_,rfl,rfl⟩,en (bp _ _) rfl ⟨e,n,c,f,.inr ⟨blk,cap,by simp[bF],rfl⟩⟩⟩
theorem G1(K:fv P cx){t:TypeId}{u k:Nat}{e:Ty}{x y:Operand}{D E:IntKind}{l c:Int}(h:cM B N γ σ a w)(L:k<N)(M:find cx.T t=some (.slice e))
  (O:cu σ x=.data (.int D) l) (Q:cu σ y=.data (.int E) c) (A:inside 0 l c=true) (R:fits c=true)
  (S:(σ.aQ (u+k) (.data (.slice e)<|gK l e.zero) 0 true λaM σ=>.ret (σ.put k<|.whole (u+k) aM)).run=some bb) :
  mP P B N γ σ a w (some k) (Instr.makeSlice t (a.eval x)<|a.eval y) bb:=by
 obtain⟨aM,p,C⟩:=dB S;obtain rfl:=aG C;obtain⟨_,U,V⟩:=jm A;have F:c<=4294967296:=by simpa [fits] using R
 have q:=h.cu x;have r:=h.cu y;rw[O] at q;rw[Q] at r;obtain⟨W,_⟩:=sT q;obtain⟨X,_⟩:=sT r;obtain⟨m,Y,Z,f3,G⟩:=(K.T _ _ M).slice;obtain⟨o,v,H,I,e3,e4⟩:=Z.info;have hb:=zw f3 H;have f:(o.bytes:Int)*c<=281474976710656:=by
  have:(o.bytes:Int)*c<=32768*c:=Int.mul_le_mul_of_nonneg_right (by omega) (by omega);omega
 have s:=run_make (P:=P) w t m o v Y H e3 D E l c U V f (by omega);have g:(madeCells v.cells<|c.toNat*o.size).toList=eP (.arr c.toNat e):=by rw[I];exact uw e4 G _
 have hlen:(gK l e.zero).length=l.toNat:=by simp[gK]
 obtain⟨m1,J⟩:=h.ok.IU (w':=w.alloc (.cells (madeCells v.cells<|c.toNat*o.size) m)) (b:=u+k) (e:=e) (l:=gK l e.zero) (tid:=0) (aM:=aM) (cap:=c.toNat) p G
  ((tX.refl _ _).alloc h.ok.base _) (cw w _) (heap_alloc_new w _) (uu _ _) (.inl rfl) (by rw[hlen];omega) (by have:=B4;omega)
  (by rw[I];exact size_madeCells _ _) (λi z hz=>by
   rw[g];have j:(List.replicate l.toNat e.zero)[i]?=some z:=hz;rw[Vl] at j;split at j
   .rename_i hi;obtain rfl:e.zero=z:=by simpa using j
    have:=eL (eP e) c.toNat i (by omega);rw[dQ] at this;rw[show eP (.arr c.toNat e)=(List.replicate c.toNat<|eP e).flatten from rfl,this];exact nJ _ _ _
   .cases j)
 refine⟨_,_,_,by rw[W,X];exact s,h.step J m1 L ?_,J⟩;have:=wZ (γ:=γ) (w':=w.alloc (.cells (madeCells v.cells<|c.toNat*o.size) m)) (mem:=σ.mem) (b:=u+k) (cap:=c.toNat) (blk:=w.heap.size)
  (bx:={ val:=.data (.slice e) (gK l e.zero),tid:=0,buf:=true,ro:=false,lk:=false,aM }) (e:=e) (n:=l.toNat) rfl (by rw[<-hlen];rfl)
 exact this
theorem OG(b:UInt8):IntKind.u8.min<=((b.toNat:Int))/\((b.toNat:Int))<=IntKind.u8.max:=u8_in b
theorem OH(l:List Int):(⟨(aY l).toArray⟩:ByteArray)=strOfNums l:=rfl
theorem WW{I:Nat->Nat->Prop}{l:List Int}{v:Value}{b dst e:TypeId}(h:zr w I (.int .u8) l v)(m:P.underlying b=some (.slice e))(n:P.underlying e=some (.int .u8))(o:P.underlying dst=some .string) :
  (convert b dst v).run P w=.ok (.string ⟨(aY l).toArray⟩) w/\l.length<=maxLen:=by
 rcases h with ⟨rfl,k,c,p,s,q⟩|⟨f,g,c,p,s,q,u⟩
 .rcases q with rfl|⟨f,g,rfl⟩
  .rw[p];refine⟨?_,mK _⟩;cases k with
   | none=>exact run_convert_bytes_nil w b e m n 0 0 dst o
   | some t =>
     rw[run_convert_bytes_string w b dst e _ _ _ m n o];have x:(loadCells t 0).run P w=.ok #[] w:=run_loadCells_list (P:=P) w t [] (λj v y=>by cases y);simp[Conv.bytesToString,Sem.run_bind,x,aY];rfl
  .rw[p];refine⟨?_,mK _⟩;exact run_convert_bytes_arg w b e m n f g 0 c [] rfl (λi r=>by omega) dst o
 .rw[p];refine⟨?_,fM s q⟩;rw[OH];refine run_convert_bytes_arg w b e m n f g l.length c l rfl (λi r=>?_) dst o;obtain⟨C,D,z,A⟩:=u i l[i] (gH r);obtain⟨rfl,_⟩:=A;have:=z 0 _ rfl;simp only[Ty.size,Bk,wL] at this;rw[this];simp[List.getD,gH r]
theorem EY(l:List Int):(aY l).length=l.length:=by simp[aY]
theorem bytesRow_at{s:ao}{cap i:Nat}{b:UInt8}(c:s[i]?=some b):((bytesRow ⟨s.toArray⟩ cap).toList.drop<|i*1).take 1=[.int .u8 (b.toNat:Int)]:=by
 have hi:=(fU.1 c).1;apply Lj;intro j;rw[fA];split
 .rename_i e;obtain rfl:j=0:=by omega
  rw[mF];simp only[bytesRow,Bk,wL,MP,MU];rw[Og<|by simpa using hi];simp[c]
 .rename_i e;rw[Oh<|by simp;omega]
theorem Ls(s:ByteArray){cap:Nat}(h:s.size<=cap):(bytesRow s cap).size=cap:=by
 simp only[bytesRow,Y5,Array.size_map,Array.size_replicate];have:s.data.size=s.size:=rfl;omega
theorem I7(C:fv P cx){r k:Nat}{j dst:TypeId}{x:Operand}{s:ao}(h:cM B N γ σ a w)(F:k<N)(G:find cx.T j=some .str)(t:find cx.T dst=some (.slice<|.int .u8))
  (H:cu σ x=.data .str s) (I:(σ.aQ (r+k) (.data (.slice<|.int .u8)<|av s) 0 true λaM σ=>.ret (σ.put k<|.whole (r+k) aM)).run=some bb) :
  mP P B N γ σ a w (some k) (convert j dst<|a.eval x) bb:=by
 have hv:=h.cu x;rw[H] at hv;obtain⟨J,K⟩:=v8 hv;obtain⟨aM,m,u⟩:=dB I;obtain rfl:=aG u;obtain⟨c,L,M,R,S⟩:=(C.T _ _ t).slice;have g:=run_bytes_of_string (P:=P) w j dst c ⟨s.toArray⟩ (C.T _ _ G).str L M.int;have p:(⟨s.toArray⟩:ByteArray).size=s.length:=by simp[ByteArray.size]
 rw[p] at g;have q:=grownCap_ge w s.length 0 c;have v:=grownCap_le_maxLen w s.length 0 c K;have y:=Ls ⟨s.toArray⟩ (cap:=grownCap w s.length 0 c) (by rw[p];exact q);have hlen:(av s).length=s.length:=by simp[av]
 generalize D:grownCap w s.length 0 c=cap at *;obtain⟨m1,E⟩:=h.ok.IU (b:=r+k) (e:=.int .u8) (l:=(av s:List Int)) (tid:=0) (aM:=aM) (cap:=cap)
  (w':=w.drew.alloc (.cells (bytesRow ⟨s.toArray⟩ cap) c ((bytesRow ⟨s.toArray⟩ cap).size,(bytesRow ⟨s.toArray⟩ cap).size+1)))
  m (by decide) ((tX.refl B w).drew.alloc h.ok.base _) (cw w.drew _) (heap_alloc_new w.drew _) ⟨λo U V=>by omega,λO=>by cases O⟩ (.inl rfl) (fM (zh hlen) q) v
  (by rw[y];exact(Bk _).symm) (λi z Q=>by
   have f:(av s)[i]?=some z:=Q;simp only[av,wH] at f;cases A:s[i]? with
   | none=>rw[A] at f;cases f
   | some b =>
     rw[A] at f;obtain rfl:(b.toNat:Int)=z:=aG f;exact⟨bytesRow_at (cap:=cap) A,OG b⟩)
 refine⟨_,_,_,by rw[J];exact g,h.step E m1 F ?_,E⟩;have:=wZ (γ:=γ) (mem:=σ.mem) (b:=r+k) (cap:=cap) (blk:=w.heap.size)
  (bx:={ val:=.data (.slice<|.int .u8) (av s),tid:=0,buf:=true,ro:=false,lk:=false,aM }) (e:=.int .u8) (n:=s.length)
  (w':=w.drew.alloc (.cells (bytesRow ⟨s.toArray⟩ cap) c ((bytesRow ⟨s.toArray⟩ cap).size,(bytesRow ⟨s.toArray⟩ cap).size+1))) rfl (by rw[<-hlen];rfl)
 exact this
theorem De(e:fv P cx){q:Nat}{g dst:TypeId}{x:Operand}(h:cM B N γ σ a w)(j:∀k,d=some k->k<N)(c:(gW cx q d g dst (cu σ x) σ).run=some bb) :
  mP P B N γ σ a w d (convert g dst<|a.eval x) bb:=by
 have hv:=h.cu x;unfold gW at c;split at c
 .rename_i z k A n f b i;rw[i] at hv;obtain⟨m,_⟩:=sT hv;obtain rfl:=aG c;refine bG h j (x:=.int k (k.wrap n)) ?_ (mkInt<|fx _ _);rw[m];simp[convert,run_underlying (e.T _ _ f).int,run_underlying (e.T _ _ b).int,Conv.intToInt]
 .rename_i s f b i;rw[i] at hv;obtain rfl:=aG c;obtain⟨m,p⟩:=v8 hv;refine bG h j (x:=a.eval x) ?_ hv;rw[m];simp[convert,run_underlying (e.T _ _ f).str,run_underlying (e.T _ _ b).str]
 .rename_i s f b i;split at c
  .rename_i k;obtain⟨C,o⟩:=cl c;exact I7 e h (j k rfl) f b i o
  .exact absurd c (by intro k;cases k)
 .rename_i D f b;split at c
  .rename_i l p;obtain rfl:=aG c;obtain⟨r,t,u,E,F⟩:=(e.T _ _ f).slice;obtain⟨v,y⟩:=WW (dst:=dst) (ri h.ok hv p) t u.int (e.T _ _ b).str;refine bG h j v ⟨_,⟨rfl,?_⟩,rfl⟩;exact fM (zh<|EY l) y
  .exact absurd c (by intro k;cases k)
 .exact absurd c (by intro k;cases k)
end
end Go.Ge
namespace Go.Ge
open RowKit
section
variable {P:Program} {B:qM} {N:Nat} {γ:Gh} {σ bb:St} {a:Act} {w w':World} {d:Option Nat} {cx:Ctx}
def eR(w:World)(I:Nat->Nat->Prop)(e:Ty)(l:List e.den)(cs:List Value):Prop :=
 ∀(i:Nat) (x:e.den),l[i]?=some x->bD w I e x ((cs.drop<|i*e.size).take e.size)
theorem nK{c:Type}{a b:List c}{i s:Nat}(h:(i+1)*s<=a.length):((a++b).drop<|i*s).take s=(a.drop<|i*s).take s:=by
 rw[zg] at h;rw[WC<|by omega,Th (by rw[j8];omega)]
theorem eR.append{I:Nat->Nat->Prop}{e:Ty}{l m:List e.den}{c f rest:List Value}(j:eR w I e l c)(k:eR w I e m f)(g:c.length=l.length*e.size)(n:f.length=m.length*e.size) :
  eR w I e (l++m) (c++f++rest):=by
 intro i x b;rw[Oj] at b;split at b
 .rename_i h;have o:(i+1)*e.size<=l.length*e.size:=gb _ h;rw[kP,nK (by omega)];exact j i x b
 .rename_i h;have p:i-l.length<m.length:=(fU.1 b).1;have o:(i-l.length+1)*e.size<=m.length*e.size:=gb _ p;have q:i*e.size=c.length+(i-l.length)*e.size:=by rw[g,<-gJ];congr 1;omega
  rw[kP,q,<-vb,Bb,nK (by omega)];exact k _ x b
theorem eR.front{I:Nat->Nat->Prop}{e:Ty}{l:List e.den}{b:List Value}{n:Nat}(h:eR w I e l b)(f:l.length*e.size<=n)(g:n<=b.length):eR w I e l (b.take n):=by
 intro i x c;have hi:i<l.length:=(fU.1 c).1;have j:(i+1)*e.size<=l.length*e.size:=gb _ hi;have:(((b.take n)++b.drop n).drop<|i*e.size).take e.size=((b.take n).drop<|i*e.size).take e.size:=nK (by rw[fT];omega);rw[<-this,vV];exact h i x c
theorem abL{I:Nat->Nat->Prop}{e:Ty}{m:List e.den}{v:Value}{o z p:TypeId}(q:(∃p,P.underlying o=some (.slice p))\/P.underlying o=some .string)(l:P.underlying z=some (.slice p))(h:zr w I e m v) :
  ∃b,Src P e.size o v m.length b w/\eR w I e m b:=by
 suffices ∃b,Src P e.size z v m.length b w/\eR w I e m b by
  obtain⟨b,c,r⟩:=this;exact⟨b,⟨q,c.len,c.cells,c.cellsD,c.newsLen,c.one⟩,r⟩
 rcases h with ⟨rfl,g,f,n,C,A⟩|⟨s,t,f,n,C,A,D⟩
 .refine⟨[],?_,λi x E=>by cases E⟩;rcases A with rfl|⟨s,t,rfl⟩
  .rw[n];cases g with
   | none=>exact Src.ofNil w l 0
   | some F=>exact Src.ofSlice w l F 0 0 [] (by simp) (λj u k=>by cases k) (λu y=>by cases y)
  .rw[n];exact Src.ofSlice w l _ 0 f [] (by simp) (λj u k=>by cases k) (λu y=>by cases y)
 .obtain⟨b,c,r,G,H⟩:=B2 (w:=w) D;refine⟨b,?_,H⟩;rw[n];exact Src.ofSlice w l _ m.length f b c (λj u k=>by rw[addr_add];exact r j u k) G
theorem abM{I:Nat->Nat->Prop}{s:ao}{g:TypeId}(k:(∃l,P.underlying g=some (.slice l))\/P.underlying g=some .string) :
  ∃e,Src P 1 g (.string ⟨s.toArray⟩) (av s).length e w/\eR w I (.int .u8) (av s:List Int) e:=by
 have hlen:(av s).length=(⟨s.toArray⟩:ByteArray).size:=by simp[av,ByteArray.size]
 refine⟨byteCells ⟨s.toArray⟩,by rw[hlen];exact⟨k,λ_=>rfl,firstCells_string _ w,firstCells_string _ w.drew,by rw[byteCells_length,Bk],λu m=>by
  obtain⟨_,_,rfl⟩:=se.1 m;rfl⟩,λi x n=>?_⟩
 have c:(av s)[i]?=some x:=n;simp only[av,wH] at c;cases h:s[i]? with
 | none=>rw[h] at c;cases c
 | some b =>
   rw[h] at c;obtain rfl:(b.toNat:Int)=x:=aG c;refine⟨?_,OG b⟩;apply Lj;intro j;rw[fA];split
   .rename_i f;obtain rfl:j=0:=by simp[Ty.size] at f;exact f
    rw[mF];simp[byteCells,Ty.size,h]
   .rename_i f;rw[Oh<|by simp[Ty.size] at f⊢;omega]
theorem zx{I:Nat->Nat->Prop}{t tx ty b:TypeId}{e:Ty}{l m:List e.den}{base:Option Addr}{sCap:Nat}{olds c:List Value}{x:Value}(A:P.underlying t=some (.slice b))(C:Den P e b)(D:ER P b=true)
  (f:(Builtin.firstCells e.size l.length<|.slice base l.length sCap).run P w.drew=.ok olds.toArray w.drew) (g:olds.length=l.length*e.size) (E:eR w I e l olds)
  (j:Src P e.size tx x m.length c w) (F:eR w I e m c) (v:sCap<l.length+m.length) (G:l.length+m.length<=4294967296) :
  ∃(cap:Nat) (cells:Array Value),(Builtin.append_ #[t,tx] ty #[.slice base l.length sCap,x]).run P w=.ok (.slice (some ⟨w.heap.size,0,none⟩) (l.length+m.length) cap) (w.drew.alloc<|.cells cells b) /\
   l.length+m.length<=cap/\cap<=maxLen/\cells.size=cap*e.size/\eR w I e (l++m) cells.toList:=by
 obtain⟨k,n,y,z,H,J⟩:=C.info;have o:=zw D y;have h:=growslice_fits (need:=l.length+m.length) (old:=sCap) (bytes:=k.bytes) v (by
  have:(l.length+m.length)*k.bytes<=4294967296*32768:=Nat.mul_le_mul G o;omega)
 have i:=run_append_grow_src (P:=P) w t tx ty b k n A y H base l.length sCap olds (by rw[z];exact f) x m.length c (by rw[z];exact j) v (by omega) h;have p:=grownCap_ge w (l.length+m.length) sCap b;have q:=grownCap_le_maxLen w (l.length+m.length) sCap b (by have:=B4;omega);have r:n.cells.size=e.size:=by rw[<-dQ e,<-J];simp
 refine⟨_,_,i,p,q,?_,?_⟩
 .have s:=j.newsLen;have u:(Builtin.zeroCells n.cells<|grownCap w (l.length+m.length) sCap b-(l.length+m.length)).size=(grownCap w (l.length+m.length) sCap b-(l.length+m.length))*e.size:=by
   simp[Builtin.zeroCells,r]
  rw[Y5,u];simp only[GM,gI,g,s];rw[<-gJ,<-gJ]
  congr 1;omega
 .rw[MP];exact E.append F g j.newsLen
theorem bu.grow{r:Nat->Option bB}(h:bu B γ r w){b:Nat}{bx:bB}(A:r b=some bx){e:Ty}{l l':List e.den}(p:bx.buf=true)(G:bx.val=.data (.slice e) l){g cap:Nat}(hl:γ.loc b=some (g,cap))
  {s cur':Array Value} {t:TypeId} {fr:Nat×Nat} (Q:w.heap[g]?=some (.cells s t fr)) (H:Zx e s fr) (abH:bx.tid=0\/t=bx.tid) (R:cur'.size=s.size) (D:∀o,o<l.length*e.size->cur'[o]?=s[o]?)
  (he:0<e.size) (J:l.length<=l'.length) (adN:l'.length<=cap) (ZH:cap<=maxLen) (K:s.size=cap*e.size) (L:eR w γ.I e l' cur'.toList) :
  let j:bB:={ bx with val:=.data (.slice e) l',aM:=bx.aM+1 }
  bu B γ (cD r b j) (w.setRow g cur')/\Ext B γ r w γ (cD r b j) (w.setRow g cur'):=by
 intro j;have T:=h.fresh b g cap (by rw[A];simp) hl;have adO:=setRow_heap w g s cur' t fr Q;have m:∀i,i≠g->(w.setRow g cur').heap[i]?=w.heap[i]?:=λi y=>setRow_other w g i cur' (λe=>y e);have C:=bB.dk p G;have hx:Ext B γ r w γ (cD r b j) (w.setRow g cur') :=
  { below:=⟨rfl,rfl,rfl,by simp,λi y=>m i λe=>y (by rw[e];exact T.1)⟩
    I:=λ_ _ x=>x
    ox:=λ_ _ x=>.inl x
    cells:=λc o x=>by
     by_cases v:c=g
     .subst v;have:=(h.sep b bx c cap o A hl x).2 p e l.length C;rw[cell_of_heap adO,cell_of_heap Q];exact D o this
     .exact di (m c v)
    boxes:=λc cx q=>by
     by_cases v:c=b
     .subst v;obtain rfl:cx=bx:=aG (q.symm.trans A);exact⟨j,bp _ _,Nat.le_succ _,λk=>absurd k (by simp[j])⟩
     .exact⟨cx,by rw[aS _ v];exact q,bZ _,λ_=>⟨rfl,rfl,rfl⟩⟩ }
 refine⟨?_,hx⟩;exact
  { cT:=h.C2 hx
    base:=by have:=h.base;simpa using this
    boxes:=λc cx q=>by
     by_cases v:c=b
     .subst v;rw[bp] at q;obtain rfl:=aG q;unfold cB;simp only[j,p];exact⟨e,l',rfl,he,.inr ⟨g,cap,cur',t,fr,hl,adO,H.same R,abH,adN,ZH,by rw[R];exact K,λi x y=>bD.mono hx.I hx.cells (L i x y)⟩⟩
     .rw[aS _ v] at q;refine(h.boxes c cx q).keep hx rfl λf E M=>m f λU=>v ?_;subst U;exact h.inj c b f E cap (by rw[q];simp) (by rw[A];simp) M hl
    inj:=λc d f V W q X F Y=>h.inj c d f V W (by
     by_cases e:c=b
     .subst e;rw[A];simp
     .rwa [aS _ e] at q) (by
     by_cases e:d=b
     .subst e;rw[A];simp
     .rwa [aS _ e] at X) F Y
    fresh:=λc f E q F=>by
     have:=h.fresh c f E (by
      by_cases e:c=b
      .subst e;rw[A];simp
      .rwa [aS _ e] at q) F
     exact⟨this.1,by simpa using this.2⟩
    sg:=λf z y=>by have:=h.sg f z y;simpa using this
    sep:=λc cx f E z q F y=>by
     by_cases v:c=b
     .subst v;rw[bp] at q;obtain rfl:=aG q;obtain⟨Z,s2⟩:=h.sep c bx f E z A F y;refine⟨Z,λ_ u n S=>?_⟩;have O:j.row=some (e,l'.length):=bB.dk (bx:=j) p rfl;rw[O] at S;obtain⟨rfl,rfl⟩:=bk (aG S);have:=s2 p e l.length C;exact A9 this (gb _ J)
     .rw[aS _ v] at q;exact h.sep c cx f E z q F y }
theorem ZI(j:bu B γ σ.mem w){e:Ty}{m:List e.den}{x:aL}{v:Value}{f k g:TypeId}(c:(∃g,P.underlying f=some (.slice g))\/P.underlying f=some .string)(l:P.underlying k=some (.slice g))
  (i:cf γ σ.mem w x .val [v]) (h:uh e σ x=some m):∃b,Src P e.size f v m.length b w/\eR w γ.I e m b:=by
 unfold uh at h;split at h
 .rename_i t;obtain⟨q,n⟩:=j9 h;subst q;subst n;obtain⟨o,_⟩:=v8 i;rw[o];exact abM c
 .exact abL c l (ri j i h)
theorem xR{α:Type}{c:Bool}{t:Tree α}{y:α}(h:(bif c then .fail else t).run=some y):c=false/\t.run=some y:=by
 cases c with
 | true=>cases h
 | false=>exact⟨rfl,h⟩
theorem p7{base:Option Addr}{t i ty f:TypeId}{b:Nat}{x:Value}{c:List Value}(j:P.underlying t=some (.slice f))(g:(Go.sizeOf f).run P w=.ok b w)(e:Src P b i x 0 c w) :
  (Builtin.append_ #[t,i] ty #[.slice base 0 0,x]).run P w=.ok (.slice base 0 0) w:=by
 cases base with
 | none=>rcases e.kind with ⟨k,h⟩|h<;>simp[Builtin.append_,run_underlying j,run_underlying h,g,e.len,e.cells]
 | some m =>
   have l:c=[]:=by have:=e.newsLen;simpa using this
   subst l;rcases e.kind with ⟨k,h⟩|h<;>simp[Builtin.append_,run_underlying j,run_underlying h,g,e.len,e.cells,storeCells]
theorem Be(b:Nat)(c:Option Addr):(Builtin.firstCells b 0<|.slice c 0 0).run P w=.ok #[] w:=by
 cases c with
 | none=>exact run_firstCells_none w b 0 0 0
 | some e=>exact run_firstCells_some w b 0 e 0 0 [] (by simp) (λj v f=>by cases f)
theorem kW{t tx ty h:TypeId}{c:Nat}{x:Value}{e:List Value}{n b sCap f:Nat}{cur:Array Value}{o:TypeId}{k:Nat×Nat}(q:P.underlying t=some (.slice h))(l:(Go.sizeOf h).run P w=.ok c w)
  (j:Src P c tx x n e w) (r:w.heap[f]?=some (.cells cur o k)) (m:mi cur k) (g:b+n<=sCap) (s:b*c+e.length<=cur.size) :
  (Builtin.append_ #[t,tx] ty #[.slice (some ⟨f,0,none⟩) b sCap,x]).run P w=.ok (.slice (some ⟨f,0,none⟩) (b+n) sCap) (w.setRow f (aR cur.toList (b*c) e).toArray):=by
 have i:=cL (P:=P) f (b*c) o k e 0 cur w r m (by omega) j.one;simp only[wL] at i;rcases j.kind with ⟨u,p⟩|p<;>simp[Builtin.append_,run_underlying q,run_underlying p,l,j.len,g,j.cells,addr_add,i]
theorem B5{b es:List Value}{k o:Nat}(h:o<k)(c:k<=b.length):(aR b k es)[o]?=b[o]?:=by
 rw[aR,kP,Og (by rw[fT];omega),fA,aV h]
theorem EZ(hc:fv P cx){nb:Nat}{t tx ty:TypeId}{s x:Operand}(h:cM B N γ σ a w)(hd:∀k,d=some k->k<N)(hk0:(∃e',P.underlying tx=some (.slice e'))\/P.underlying tx=some .string)
  (H:(iq cx nb d t (cu σ s) (cu σ x) σ).run=some bb):mP P B N γ σ a w d (Builtin.append_ #[t,tx] ty #[a.eval s,a.eval x]) bb:=by
 have Q:=h.cu s;have hvx:=h.cu x;unfold iq at H;split at H
 case h_2=>exact absurd H (by intro k;cases k)
 rename_i _ _ k e hT;obtain⟨y,R,f2,f3,f4⟩:=(hc.T _ _ hT).slice;have V:=f2.sizeOf w;split at H
 case h_2=>exact absurd H (by intro k;cases k)
 rename_i m hm;have hm:uh e σ (cu σ x)=some m:=hm;obtain⟨z,W,n2⟩:=ZI h.ok hk0 R hvx hm;split at H
 .rename_i hs;rw[hs] at Q;obtain J:a.eval s=_:=by simpa [cf] using Q
  obtain⟨S,X⟩:=cl H;have S:m.length<=4294967296:=Dd S;obtain⟨aM,E,hr3⟩:=dB X;obtain rfl:=aG hr3;rw[J];rcases Qp m.length with D|D
  .obtain rfl:m=[]:=vU.1 D;obtain⟨m1,r⟩:=h.ok.IV (b:=nb+k) (tid:=0) E f4;refine⟨_,_,_,p7 R V W,h.step r m1 (hd k rfl) ?_,r⟩;exact⟨⟨_,rfl,rfl⟩,en (bp _ _) rfl ⟨e,0,rfl,rfl,.inl ⟨by simp[bF],rfl⟩⟩⟩
  .obtain⟨cap,f,g1,g2,O,g4,g5⟩:=zx (I:=γ.I) (ty:=ty) (l:=([]:List e.den)) (base:=none) (sCap:=0) (olds:=[]) R f2 f3 (by simpa using run_firstCells_none w.drew e.size 0 0 0) (by simp) (λi x hx=>by cases hx) W n2
    (by simpa using D) (by simpa using S)
   simp only[eG,qI,sd] at g1 g2 g5;obtain⟨m1,r⟩:=h.ok.IU (b:=nb+k) (e:=e) (l:=m) (tid:=0) (aM:=aM) (cap:=cap) E f4 ((tX.refl B w).drew.alloc h.ok.base _) (cw w.drew _) (heap_alloc_new w.drew _) (uu _ _) (.inl rfl) g2 O g4 g5;refine⟨_,_,_,g1,h.step r m1 (hd k rfl) ?_,r⟩;exact wZ (bx:={ val:=.data (.slice e) m,tid:=0,buf:=true,ro:=false,lk:=false,aM }) (e:=e) (n:=m.length) rfl rfl
 .rename_i b aM hs;rw[hs] at Q;split at H
  case h_2=>exact absurd H (by intro k;cases k)
  rename_i bx l Y hl;obtain⟨Z,hb',E,c,hbv⟩:∃bx,σ.mem b=some bx/\bx.aM=aM/\bx.buf=true/\bx.val=.data (.slice e) l:=by
   rcases mR hl with q|⟨q,_⟩|⟨b',ajv,Z,q,h1,K,h3,h4⟩|⟨_,_,_,_,_,q,_⟩
   .cases q
   .cases q
   .cases q;exact⟨Z,h1,K,h3,h4⟩
   .cases q
  obtain rfl:bx=Z:=aG (Y.symm.trans hb')
  .obtain⟨ZG,hr1⟩:=xR H;obtain⟨S,X⟩:=cl hr1;obtain rfl:=aG X;have S:l.length+m.length<=4294967296:=by
    have:fits (((l.length+m.length:Nat)):Int)=true:=by rw[<-S];simp[plus,len]
    exact Dd this
   have U:bx.tid=0\/y=bx.tid:=by
    simp only[vW,FV] at ZG;have K:=ZG.2;unfold adD at K;simp only[wJ] at K;rcases K with K|K
    .exact .inl (eX K)
    .split at K
     .rename_i e' he';have:=hc.VC _ _ he';rw[R] at this;have h4:y=e':=by injection this with this;injection this
      exact .inr (h4.trans<|eX K)
     .cases K
   subst E;obtain⟨e2,n2',g1,g2,O⟩:=bg Y rfl Q.2;rw[bB.dk c hbv] at g2;obtain⟨rfl,rfl⟩:=bk (aG g2);have hat:=h.ok.boxes b bx Y;rw[cB,c] at hat;obtain⟨e3,l3,q1,q2,G⟩:=hat;rw[hbv] at q1;cases q1;have g:(app (α:=e.den) l m).length=l.length+m.length:=gI;rcases O with ⟨O,g4⟩|⟨A,cap,O,g4⟩
   .obtain J:a.eval s=_:=by simpa using g4
    have hl0:l=[]:=by
     rcases G with ⟨_,G⟩|⟨A,cap,u,tid,fr,G,_⟩
     .exact G
     .rw[O] at G;cases G
    subst hl0;rw[J];rcases Qp m.length with D|D
    .obtain rfl:m=[]:=vU.1 D;have M:cB (bF γ b none) (cD σ.mem b { bx with val:=.data (.slice e) ([]:List e.den),aM:=bx.aM+1 }) w b { bx with val:=.data (.slice e) ([]:List e.den),aM:=bx.aM+1 }:=by
      unfold cB;simp only[c];exact⟨e,[],rfl,f4,.inl ⟨by simp[bF],rfl⟩⟩
     have C:∀p,σ.mem b=some p->p.aM<bx.aM+1:=λp D=>by rw[Y] at D;obtain rfl:=aG D;omega
     have m1:=h.ok.add (L:=none) C (tX.refl B w) (λ_ _=>rfl) (λA k e=>by cases e) M;have r:=tw (L:=none) h.ok (bx:={ bx with val:=.data (.slice e) ([]:List e.den),aM:=bx.aM+1 }) C (tX.refl B w) (λ_ _=>rfl);refine⟨_,_,_,p7 R V W,h.step r m1 (hd k rfl) ?_,r⟩;exact⟨⟨_,rfl,rfl⟩,en (bp _ _) rfl ⟨e,0,c,bB.dk (bx:={ bx with val:=.data (.slice e) ([]:List e.den),aM:=bx.aM+1 }) c rfl,.inl ⟨by simp[bF],rfl⟩⟩⟩
    .obtain⟨cap,f,j1,j2,j3,j4,j5⟩:=zx (I:=γ.I) (ty:=ty) (l:=([]:List e.den)) (base:=none) (sCap:=0) (olds:=[]) R f2 f3 (by simpa using Be (w:=w.drew) e.size none) (by simp) (λi x hx=>by cases hx) W n2
      (by simpa using D) (by simpa using S)
     have C:∀p,σ.mem b=some p->p.aM<bx.aM+1:=λp D=>by rw[Y] at D;obtain rfl:=aG D;omega
     have hw:tX B w (w.drew.alloc<|.cells f y):=(tX.refl B w).drew.alloc h.ok.base _;have r:=tw (L:=some (w.heap.size,cap)) h.ok (bx:={ bx with val:=.data (.slice e) (app (α:=e.den) [] m),aM:=bx.aM+1 }) C hw (cw w.drew _);have M:cB (bF γ b<|some (w.heap.size,cap)) (cD σ.mem b { bx with val:=.data (.slice e) (app (α:=e.den) [] m),aM:=bx.aM+1 }) (w.drew.alloc<|.cells f y) b { bx with val:=.data (.slice e) (app (α:=e.den) [] m),aM:=bx.aM+1 }:=by
      unfold cB;simp only[c];exact⟨e,_,rfl,f4,.inr ⟨w.heap.size,cap,f,y,(0,0),by simp[bF],heap_alloc_new w.drew _,uu _ _,U,by rw[g];exact j2,j3,j4,λi x hi=>bD.mono r.I r.cells (j5 i x hi)⟩⟩
     have m1:=h.ok.add (L:=some (w.heap.size,cap)) C hw (cw w.drew _) (λA k e=>by obtain⟨rfl,rfl⟩:=bk (aG e);exact⟨bZ _,(va.1<|heap_alloc_new w.drew _).1⟩) M;refine⟨_,_,_,j1,h.step r m1 (hd k rfl) ?_,r⟩;exact wZ (bx:={ bx with val:=.data (.slice e) (app (α:=e.den) [] m),aM:=bx.aM+1 }) (e:=e) (n:=List.length (α:=e.den) []+m.length) c (by rw[<-g];exact bB.dk (bx:={ bx with val:=.data (.slice e) (app (α:=e.den) [] m),aM:=bx.aM+1 }) c rfl)
   .obtain J:a.eval s=_:=by simpa using g4
    rw[J];rcases G with ⟨G,_⟩|⟨abF,abG,u,tid,fr,G,q4,q5,ae1,q6,q7,q8,q9⟩
    .rw[O] at G;cases G
    rw[O] at G;obtain⟨rfl,rfl⟩:=bk (aG G);have hcl:u.toList.length=cap*e.size:=by simpa using q8
    have hlc:l.length*e.size<=cap*e.size:=gb _ q6;rcases tr cap (l.length+m.length) with hgt|hle
    .have hfc:=run_firstCells_some (P:=P) w.drew e.size l.length ⟨A,0,none⟩ l.length cap (u.toList.take<|l.length*e.size) (by rw[fT];omega) (λj v hj=>by
      rw[addr_add];show w.cell? ⟨A,0+j,none⟩=some v
      rw[cell_of_heap q4];rw[fA] at hj;split at hj
      .simpa using hj
      .cases hj)
     obtain⟨F,f,j1,j2,j3,j4,j5⟩:=zx (I:=γ.I) (ty:=ty) (l:=l) (base:=some ⟨A,0,none⟩) (sCap:=cap) R f2 f3 hfc (by rw[fT];omega) (eR.front q9 (bZ _)<|by omega) W n2 hgt S;have C:∀p,σ.mem b=some p->p.aM<bx.aM+1:=λp D=>by rw[Y] at D;obtain rfl:=aG D;omega
     have hw:tX B w (w.drew.alloc<|.cells f y):=(tX.refl B w).drew.alloc h.ok.base _;have r:=tw (L:=some (w.heap.size,F)) h.ok (bx:={ bx with val:=.data (.slice e) (app (α:=e.den) l m),aM:=bx.aM+1 }) C hw (cw w.drew _);have M:cB (bF γ b<|some (w.heap.size,F)) (cD σ.mem b { bx with val:=.data (.slice e) (app (α:=e.den) l m),aM:=bx.aM+1 }) (w.drew.alloc<|.cells f y) b { bx with val:=.data (.slice e) (app (α:=e.den) l m),aM:=bx.aM+1 }:=by
      unfold cB;simp only[c];exact⟨e,_,rfl,f4,.inr ⟨w.heap.size,F,f,y,(0,0),by simp[bF],heap_alloc_new w.drew _,uu _ _,U,by rw[g];exact j2,j3,j4,λi x hi=>bD.mono r.I r.cells (j5 i x hi)⟩⟩
     have m1:=h.ok.add (L:=some (w.heap.size,F)) C hw (cw w.drew _) (λA k e=>by obtain⟨rfl,rfl⟩:=bk (aG e);exact⟨bZ _,(va.1<|heap_alloc_new w.drew _).1⟩) M;refine⟨_,_,_,j1,h.step r m1 (hd k rfl) ?_,r⟩;exact wZ (bx:={ bx with val:=.data (.slice e) (app (α:=e.den) l m),aM:=bx.aM+1 }) (e:=e) (n:=l.length+m.length) c (by rw[<-g];exact bB.dk (bx:={ bx with val:=.data (.slice e) (app (α:=e.den) l m),aM:=bx.aM+1 }) c rfl)
    .have hnl:=W.newsLen;have hmul:(l.length+m.length)*e.size<=cap*e.size:=gb _ hle;rw[gJ] at hmul;have hlen:l.length*e.size+z.length<=u.toList.length:=by rw[hnl,hcl];exact hmul
     have adQ:=kW (P:=P) (t:=t) (tx:=tx) (ty:=ty) (sCap:=cap) R V W q4 q5.th hle (by simpa using hlen);have agW:(aR u.toList (l.length*e.size) z).toArray.size=u.size:=by have:=bL hlen;simpa using this
     obtain⟨m1,r⟩:=h.ok.grow Y c hbv O q4 q5 ae1 (cur':=(aR u.toList (l.length*e.size) z).toArray) (l':=app (α:=e.den) l m) agW (λo ho=>by
      have:=B5 (es:=z) ho (by omega:l.length*e.size<=u.toList.length);simpa using this) f4 (by rw[g];omega) (by rw[g];exact hle) q7 q8 (by
      have:=(eR.front q9 (bZ _) (by omega:l.length*e.size<=u.toList.length)).append (rest:=u.toList.drop (l.length*e.size+z.length)) n2 (by rw[fT];omega) hnl;exact this)
     refine⟨_,_,γ,adQ,h.step r m1 (hd k rfl) ?_,r⟩;exact⟨⟨_,rfl,rfl⟩,en (bp _ _) rfl ⟨e,l.length+m.length,c,by rw[<-g];exact bB.dk (bx:={ bx with val:=.data (.slice e) (app (α:=e.den) l m),aM:=bx.aM+1 }) c rfl,.inr ⟨A,cap,O,rfl⟩⟩⟩
 .exact absurd H (by intro k;cases k)
end
end Go.Ge
