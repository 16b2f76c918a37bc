import Derived.Test.YtcebnmppipejfaaGreatDoorGeC
import Derived.Great.BuildSlice
import Derived.Laws.IdiomStrings
import Derived.Laws.BytesArg
import Derived.Laws.MakeOwn
import Derived.Deep.AppendSrc
set_option linter.unusedVariables false
set_option linter.unusedSimpArgs false
set_option linter.unusedSectionVars false
namespace Go.Ge
open RowKit
section
variable {P:Program} {B:qA} {N:Nat} {γ:Gh} {σ aV:St} {a:Act} {w:World} {d:Option Nat} {cx:Ctx}
theorem VJ{bx:Box}{k:Nat}{c v:aK}{f:aK->Tree aK}(j:bx.buf=false)(l:bx.val=v)(h:(FU v k f).run=some c):({ bx with val:=c }:Box).row=bx.row:=by
 obtain⟨g,tid,m,r,s,o⟩:=bx;subst j;subst l;cases g with
 | data t x =>
   obtain⟨y,i,b⟩:=bind_some (show((JH t x k f).bind λy=>.ret (.data t y)).run=some c from h);obtain rfl:=aE b;cases t with
   | arr n e=>cases k<;>exact absurd i (by intro k;cases k)
   | _=>rfl
 | mix p q =>
   cases k with
   | zero =>
     obtain⟨y,i,b⟩:=bind_some (show((f p).bind λv=>.ret (.mix v q)).run=some c from h);obtain rfl:=aE b;rfl
   | succ k =>
     obtain⟨y,i,b⟩:=bind_some (show((FU q k f).bind λv=>.ret (.mix p v)).run=some c from h);obtain rfl:=aE b;rfl
 | _=>exact absurd h (by intro k;cases k)
theorem aed{bx:Box}{e:Ty}{l:List e.den}{i:Int}{y:e.den}(b:bx.buf=true)(c:bx.val=.data (.slice e) l):({ bx with val:=.data (.slice e) (jF l i y) }:Box).row=bx.row:=by
 rw[Box.df b c,Box.df (bx:={ bx with val:=.data (.slice e) (jF l i y) }) (l:=jF l i y) b rfl];simp[jF]
theorem HN{bx:Box}{p:List CU}{v c:aK}(h:(JI bx.buf p bx.val v).run=some c)(m:p=[]->bx.buf=false->({ bx with val:=v }:Box).row=bx.row) :
  ({ bx with val:=c }:Box).row=bx.row:=by
 unfold JI at h;split at h
 .rename_i b;cases p with
  | nil=>obtain rfl:=aE h;exact m rfl b
  | cons s p =>
    cases s with
    | fD k off=>exact VJ b rfl h
    | idx i size =>
      simp only[v8] at h;split at h
      .rename_i n e l g;obtain⟨x,o,j⟩:=bX h;obtain⟨z,q,f⟩:=bind_some j;split at f
       .obtain rfl:=aE f;rw[Box.pD b g];exact Box.pD (bx:={ bx with val:=_ }) b rfl
       .exact absurd f (by intro k;cases k)
      .exact absurd h (by intro k;cases k)
 .rename_i b;split at h
  .rename_i i size p e l g;obtain⟨x,o,j⟩:=bX h;obtain⟨z,q,f⟩:=bind_some j;split at f
   .obtain rfl:=aE f;exact aed b g
   .exact absurd f (by intro k;cases k)
  .exact absurd h (by intro k;cases k)
theorem Cb(h:cQ B N γ σ a w){b aI:Nat}{p:List CU}{O:aK->Bool}{u:aK}{es:List Value}(Q:(storeAt b aI p O u σ).run=some aV)(hu:b5 γ σ.mem w u .cells es)
  (U:∀H,O H=true->es.length=da H) (V:∀bx:Box,O bx.val=true->bx.buf=false->({ bx with val:=u }:Box).row=bx.row)
  {m o:Nat} (R:γ.loc b=some (m,o)) :
  ∃w',(storeCells ⟨m,cL p,none⟩ es).run P w=.ok () w'/\cQ B N γ aV a w'/\Ext B γ σ.mem w γ aV.mem w':=by
 unfold storeAt at Q;split at Q
 case h_2=>exact absurd Q (by intro k;cases k)
 rename_i bx hb;obtain⟨hc,hr2⟩:=aw Q;simp only[dF,kS] at hc;obtain⟨⟨alr,hlk⟩,W⟩:=hc;obtain⟨H,q,hr3⟩:=bind_some hr2;obtain⟨L,hr4⟩:=aw hr3;obtain⟨c,S,hr5⟩:=bind_some hr4;obtain rfl:=aE hr5;have r:=U H L;have X:({ bx with val:=c }:Box).row=bx.row:=HN S λhp g=>by
  subst hp;rw[g] at q;obtain rfl:=aE q;exact V bx L g
 have t:=h.ok.boxes b bx hb;unfold cJ at t;unfold Y4 at q;unfold JI at S;have hbb:bx.buf=false\/bx.buf=true:=by cases bx.buf<;>simp
 rcases hbb with g|g
 .rw[g] at t q S;obtain⟨Y,Z,f,tid,fr,h1,h2,F,A,h4⟩:=t;rw[R] at h1;obtain⟨rfl,rfl⟩:=dz (aE h1);obtain⟨k1,k2⟩:=vm h4 q;have C:cL p+es.length<=f.toList.length:=by rw[r];exact k1
  have D:=cS (P:=P) m (cL p) tid fr es 0 f w h2 F (by simpa using C) (λv hv=>hu.one v hv);rw[v7] at D;have J:(aQ f.toList (cL p) es).toArray.size=f.size:=by have:=bH C;simpa using this
  obtain⟨m1,m2⟩:=h.ok.write hb W R h2 (cur':=(aQ f.toList (cL p) es).toArray) (v:=c) J X
   (λw' dP G hg=>by
    show cJ γ dP w' b { bx with val:=c }
    unfold cJ;simp only[g];exact⟨m,o,_,tid,fr,R,hg,F.same J,A,by simpa using yh (h4.ext G) q S (hu.ext G) r⟩)
  exact⟨_,D,h.go m2 m1,m2⟩
 .rw[g] at t q S;obtain⟨e,l,h1,h2,F⟩:=t;rw[h1] at q S;rcases F with ⟨F,_⟩|⟨Y,Z,f,tid,fr,F,h4,h5,A,h6,h7,h8,h9⟩
  .rw[R] at F;cases F
  .rw[R] at F;obtain⟨rfl,rfl⟩:=dz (aE F);cases p with
   | nil=>cases q
   | cons s p =>
     cases s with
     | fD k off=>cases q
     | idx i size =>
       obtain⟨hsb,hn2⟩:=aw q;have J:=eT hsb;obtain⟨x,G,hn3⟩:=bX hn2;obtain⟨x',hx',hs2⟩:=bX S;obtain rfl:x=x':=aE (G.symm.trans hx');obtain⟨z,hq,K⟩:=bind_some hs2;cases hz:toS e z with
       | none=>rw[hz] at K;cases K
       | some y =>
         rw[hz] at K;obtain rfl:=aE K;obtain⟨h0,hx2⟩:=rO G;have Q:=h9 _ x hx2;have hrl:=Q.length;have hi:i.toNat<l.length:=(ix.1 hx2).1;have hm2:(i.toNat+1)*e.size<=o*e.size:=fN _ (by omega);rw[zQ] at hm2;have hrr:b5 γ σ.mem w (.data e x) .cells ((f.toList.drop<|i.toNat*e.size).take e.size):=Q;obtain⟨k1,k2⟩:=vm hrr hn3;rw[hrl] at k1;have T:f.toList.length=o*e.size:=by simpa using h8
         have M:cL (.idx i size::p)=i.toNat*e.size+cL p:=by simp only[cL,J]
         have C:cL (.idx i size::p)+es.length<=f.toList.length:=by rw[M,r,T];omega
         have D:=cS (P:=P) m (cL (.idx i size::p)) tid fr es 0 f w h4 h5.th (by simpa using C) (λv hv=>hu.one v hv);rw[v7] at D;have E:(aQ f.toList (cL (.idx i size::p)) es).toArray.size=f.size:=by have:=bH C;simpa using this
         have e1:=qX f.toList (i.toNat*e.size) (cL p) e.size es (by rw[r];exact k1) (by rw[T];omega);obtain⟨m1,m2⟩:=h.ok.write hb W R h4 (cur':=(aQ f.toList (cL (.idx i size::p)) es).toArray) (v:=.data (.slice e) (jF (α:=e.den) l i y)) E X
          (λw' dP G hg=>by
           show cJ γ dP w' b { bx with val:=.data (.slice e) (jF (α:=e.den) l i y) }
           unfold cJ;simp only[g];refine⟨e,_,rfl,h2,.inr ⟨m,o,_,tid,fr,R,hg,h5.same E,A,?_,h7,by rw[E];exact h8,?_⟩⟩
           .exact iz (zR List.length_set) h6
           .have hzz:=JR hz (yh (hrr.ext G) hn3 hq (hu.ext G) r);have:=KJ (w:=w') (I:=γ.I) (l:=l) (n:=l.length) (cs:=f.toList) rfl (by rw[T];exact fN _ h6)
             (λj x hj=>bB.mono G.I G.cells (h9 j x hj)) hi hzz
            rw[e1,<-M] at this;exact this)
         exact⟨_,D,h.go m2 m1,m2⟩
theorem Zf{c:Nat->Option Box}:∀{t:Ty} {x:t.den} {cs:List Value},bB w γ.I t x cs->b5 γ c w (XY t x) .cells cs:=by
 intro t;induction t with
 | pair a b g f=>intro x cs h;obtain⟨i,j,e,k,l⟩:=h;exact⟨i,j,e,k,f l⟩
 | _=>intro x cs h;exact h
theorem F6{b:Nat->Option Box}{v:aK}{c:List Value}(h:b5 γ b w v .cells c):b5 γ b w (abE v) .cells c:=by
 cases v with
 | data t x=>exact Zf h
 | _=>exact h
theorem S8{bx:Box}(e:bx.buf=false)(c:abG bx.val=true):bx.row=none:=by
 unfold Box.row;rw[e];obtain⟨b,tid,f,h,i,g⟩:=bx;cases b with
 | data t x=>cases t<;>first|rfl|cases c
 | mix p q=>rfl
 | _=>cases c
theorem Cc(h:cQ B N γ σ a w){b y:Nat}{p:List CU}{n:Nat}{u:aK}{es:List Value}(x:(oh b y p n u σ).run=some aV)(L:b5 γ σ.mem w u .cells es)
  (j:es.length=n) {g l:Nat} (z:γ.loc b=some (g,l)) :
  ∃w',(storeCells ⟨g,cL p,none⟩ es).run P w=.ok () w'/\cQ B N γ aV a w'/\Ext B γ σ.mem w γ aV.mem w':=by
 unfold oh at x;split at x
 case h_2=>exact absurd x (by intro k;cases k)
 rename_i bx M;obtain⟨O,A⟩:=aw x;simp only[dF,kS] at O;obtain⟨⟨⟨⟨Q,hlk⟩,C⟩,e⟩,D⟩:=O;obtain⟨E,R,F⟩:=bind_some A;obtain⟨m,G⟩:=aw F;obtain⟨c,hs,H⟩:=bind_some G;obtain⟨I,J⟩:=aw H;obtain rfl:=aE J;have o:es.length=da E:=j.trans (eT m).symm;have K:({ bx with val:=c }:Box).row=bx.row:=(S8 (bx:={ bx with val:=c }) e I).trans (S8 e D).symm;have i:=h.ok.boxes b bx M;unfold cJ at i;rw[e] at i;obtain⟨S,T,f,tid,U,V,W,X,q,Y⟩:=i;rw[z] at V;obtain⟨rfl,rfl⟩:=dz (aE V);obtain⟨k1,k2⟩:=vm (F6 Y) R;have r:cL p+es.length<=f.toList.length:=by rw[o];exact k1
 have s:=cS (P:=P) g (cL p) tid U es 0 f w W X (by simpa using r) (λv hv=>L.one v hv);rw[v7] at s;have t:(aQ f.toList (cL p) es).toArray.size=f.size:=by have:=bH r;simpa using this
 obtain⟨m1,Z⟩:=h.ok.write M C z W (cur':=(aQ f.toList (cL p) es).toArray) (v:=c) t K
  (λw' dP hx hg=>by
   show cJ γ dP w' b { bx with val:=c }
   unfold cJ;simp only[e];exact⟨g,l,_,tid,U,z,hg,X.same t,q,by simpa using yh (F6<|Y.ext hx) R hs (L.ext hx) o⟩)
 exact⟨_,s,h.go Z m1,Z⟩
theorem vo{g:TypeId}{b c n:Nat}{v:Value}{h:World}(i:(Go.sizeOf g).run P w=.ok n w)(j:v.cells.toList.length=n)(e:(storeCells ⟨b,c,none⟩ v.cells.toList).run P w=.ok () h) :
  (Instr.storeAt g (.pointer<|some ⟨b,c,none⟩) v).run P w=.ok () h:=by
 have f:v.cells.size=n:=by simpa using j
 simp only[Instr.storeAt,Instr.sureAddr,storeVar,Sem.run_bind,Sem.run_pure,Result.andThen_ok,i,f,ne_eq,not_true_eq_false,sR];exact e
theorem IC(s:eS P cx){bf:List Nat}{O:TypeId}{x y:Operand}(h:cQ B N γ σ a w)(F:(lD cx bf O (cp σ x) (cp σ y) σ).run=some aV) :
  ∃w' bG,(Instr.storeAt O (a.eval x)<|a.eval y).run P w=.ok () w'/\cQ B N bG aV a w'/\Ext B γ σ.mem w bG aV.mem w':=by
 have hv:=h.cp x;have hy:=h.cp y;unfold lD at F;split at F
 case h_2=>exact absurd F (by intro k;cases k)
 rename_i b R p hx;rw[hx] at hv;split at F
 case h_2=>exact absurd F (by intro k;cases k)
 rename_i bx hb;obtain⟨m,S⟩:=aw F;have m:=eT m;obtain⟨C,hn,D⟩:=bind_some S;obtain⟨U,V,W,o⟩:=ba hb m hv.2;obtain o:a.eval x=_:=by simpa using o
 rw[o];split at D
 .rename_i u z;obtain⟨A,c⟩:=aw D;have A:=iH A;have hD:=s.T _ _ A;cases X:cK bf 8000000&&abF u (cp σ y) with
  | true =>
    rw[X] at c;have how:=(aa8.1 X).2;have r:b5 γ σ.mem w (cp σ y) .cells (a.eval y).cells.toList:=by
     refine hy.kE (λu' e=>?_) (λe=>?_)
     .rw[e] at how;cases how
     .rw[e] at how;cases how
    have E:da (cp σ y)=u.size:=by
     unfold abF at how;split at how
     .rename_i e;rw[e];exact Zd how
     .rename_i e;rw[e];exact KO how
     .cases how
    have f:(a.eval y).cells.toList.length=u.size:=by rw[r.length,E]
    obtain⟨w',G,H,I⟩:=Cc (P:=P) h c r f W;exact⟨w',γ,vo (hD.sizeOf w) f G,H,I⟩
  | false =>
  rw[X] at c;replace c:(match xf σ u (cp σ y) with|some (y,σ)=>storeAt b R p (Y6 u) (.data u y) σ|none=>.fail).run=some aV:=c;split at c
  .rename_i y0 bA hg;obtain⟨J,s1,s2,s3⟩:=mr h hy hg;obtain⟨cs,Q,c2⟩:=s3;obtain Y:a.eval y=_:=by simpa using c2
   have K:(a.eval y).cells.toList=cs:=by rw[Y];exact qW Q
   obtain⟨Z,g1,g2,g3⟩:=s2.boxes b bx hb;have hl1:J.loc b=some (U,V):=by
    have hv':Z.aI=bx.aI:=by
     unfold storeAt at c;split at c
     .rename_i bx2 L;rw[g1] at L;obtain rfl:=aE L;obtain⟨s,_⟩:=aw c;simp only[dF] at s;have:=eT s.1.1;omega
     .exact absurd c (by intro k;cases k)
    rw[(g3 hv').1];exact W
   obtain⟨w',G,H,I⟩:=Cb (P:=P) s1 c (u:=.data u y0) (es:=cs) Q (λC g=>by
    unfold Y6 at g;split at g
    .rename_i t q;obtain rfl:=Ty.eq_of_beq g;exact Q.length
    .cases g) (λbx g i=>by
    unfold Y6 at g;split at g
    .rename_i t q M;obtain rfl:=Ty.eq_of_beq g;cases t with
     | arr n e=>rw[Box.pD i M];exact Box.pD (bx:={ bx with val:=_ }) i rfl
     | _=>unfold Box.row;rw[i,M]
    .cases g) hl1
   refine⟨w',J,vo (hD.sizeOf w) ?_ ?_,H,s2.trans I⟩
   .rw[K];exact Q.length
   .rw[K];exact G
  .exact absurd c (by intro k;cases k)
 .obtain⟨A,c⟩:=aw D;simp only[dF] at A;obtain⟨hrt,l⟩:=A;have key:∀{v:aK},wa cx O v=true->isRef v=true->da v=1/\(Go.sizeOf O).run P w=.ok 1 w:=by
   intro v j h2;unfold wa at j;split at j
   .cases h2
   .split at j
    .rename_i e A;exact⟨rfl,(s.T _ _ A).sizeOf w⟩
    .cases j
   .exact⟨rfl,(s.qx _ j).2.1 w⟩
   .exact⟨rfl,(s.qx _ j).2.1 w⟩
   .exact⟨rfl,(s.qx _ j).2.1 w⟩
   .cases j
  obtain⟨j,E⟩:=key hrt l;have r:b5 γ σ.mem w (cp σ y) .cells (a.eval y).cells.toList:=by
   refine hy.kE (λu e=>?_) (λe=>?_)
   .rw[e] at l;cases l
   .rw[e] at l;cases l
  have f:(a.eval y).cells.toList.length=1:=by rw[r.length,j]
  obtain⟨w',G,H,I⟩:=Cb (P:=P) h c r (λC g=>by
   simp only[x7,dF] at g;rcases g with g|g
   .rw[f,(key g.1 g.2).1]
   .rw[f];cases C<;>first|rfl|cases g) (λbx g i=>by
   simp only[x7,dF] at g;have e1:∀{v:aK} {bx:Box},(isRef v=true\/XZ v=true)->bx.buf=false->bx.val=v->bx.row=none:=by
    intro v bx j h2 h3;unfold Box.row;rw[h2,h3];cases v<;>first|rfl|(rcases j with j|j<;>cases j)
   rw[e1 (g.elim (λq=>.inl q.2) .inr) i rfl];exact e1 (bx:={ bx with val:=cp σ y }) (.inl l) i rfl) W
  exact⟨w',γ,vo E f G,H,I⟩
theorem qD(t:TypeId)(v:Value):(newVar t v).run P w=.ok ⟨w.heap.size,0,none⟩ (w.alloc<|.cells v.cells t):=by
 simp[newVar,newRow]
theorem Bl{e:Nat->Option Box}{f:World}{b:Nat}{bx:Box}{c:Nat}:b5 (bq γ b<|some (w.heap.size,c)) (cB e b bx) f (.ptr b bx.aI []) .val [.pointer<|some ⟨w.heap.size,0,none⟩] :=
 ⟨⟨_,rfl,rfl⟩,dJ (bk _ _) rfl ⟨w.heap.size,c,by simp[bq],rfl⟩⟩
theorem S9(m:eS P cx){c:TypeId}{g k:Nat}{t:Ty}(h:cQ B N γ σ a w)(n:k<N)(o:find cx.T c=some t)
  (p:(σ.aJ (g+k) (.data t t.zero) 0 false λe σ=>.ret (σ.put k<|.ptr (g+k) e [])).run=some aV) :
  mb P B N γ σ a w (some k) (Instr.alloc c true<|.tuple #[]) aV:=by
 obtain⟨e,f,i⟩:=cV p;obtain rfl:=aE i;obtain⟨z,q,j⟩:=(m.T _ _ o).zero w;obtain⟨m1,l⟩:=h.ok.newVar (b:=g+k) (v:=.data t t.zero) (tid:=0) f (cs:=z.cells) c (.inl rfl) (by rw[j];exact jS w γ.I t);refine⟨.pointer<|some ⟨w.heap.size,0,none⟩,_,_,?_,h.step l m1 n Bl,l⟩;simp only[Instr.alloc,Sem.run_bind,q,Result.andThen_ok,qD,Sem.run_pure]
theorem ID(n:eS P cx){c:TypeId}{i k:Nat}(h:cQ B N γ σ a w)(o:k<N)(p:cK cx.qx c=true)
  (q:(σ.aJ (i+k) .undef 0 false λf σ=>.ret (σ.put k<|.ptr (i+k) f [])).run=some aV) :
  mb P B N γ σ a w (some k) (Instr.alloc c true<|.tuple #[]) aV:=by
 obtain⟨f,g,j⟩:=cV q;obtain rfl:=aE j;obtain⟨z,l,e⟩:=(n.qx _ p).2.2;have l:=l w;obtain⟨m1,m⟩:=h.ok.newVar (b:=i+k) (v:=.undef) (tid:=0) g (cs:=z.cells) c (.inl rfl) ⟨z,by cases z<;>first|rfl|(simp[Value.oneCell'] at e),e⟩;refine⟨.pointer<|some ⟨w.heap.size,0,none⟩,_,_,?_,h.step m m1 o Bl,m⟩;simp only[Instr.alloc,Sem.run_bind,l,Result.andThen_ok,qD,Sem.run_pure]
theorem Ta{b A:Nat}:∀{D:List mR} {j:Nat} {σ:St} {γ:Gh} {r:aK×St},bu B γ σ.mem w->(mkObj b A D j σ).run=some r ->
  ∃c,bu B c r.2.mem w/\Ext B γ σ.mem w c r.2.mem w/\r.2.slots=σ.slots /\
   ∀bG dP w',Ext B c r.2.mem w bG dP w'->(∃bx l n,dP b=some bx/\A<=bx.aI/\bG.loc b=some (l,n))->b5 bG dP w' r.1 .cells (KG D):=by
 intro D;induction D with
 | nil=>intro j σ γ r h z;obtain rfl:=aE z;exact⟨γ,h,Ext.refl _ _ _ _,rfl,λ_ _ _ _ _=>rfl⟩
 | cons f r E =>
   intro j σ γ q h z;cases f with
   | zL t =>
     obtain⟨y,o,p⟩:=bind_some z;obtain rfl:=aE p;obtain⟨c,s,g,u,x⟩:=E h o;exact⟨c,s,g,u,λbG dP w' i k=>⟨_,_,rfl,jS _ _ t,x bG dP w' i k⟩⟩
   | one =>
     obtain⟨y,o,p⟩:=bind_some z;obtain rfl:=aE p;obtain⟨c,s,g,u,x⟩:=E h o;exact⟨c,s,g,u,λbG dP w' i k=>⟨[.pointer none],_,rfl,rfl,x bG dP w' i k⟩⟩
   | self =>
     obtain⟨y,o,p⟩:=bind_some z;obtain rfl:=aE p;obtain⟨c,s,g,u,x⟩:=E h o;refine⟨c,s,g,u,λbG dP w' i k=>⟨[.pointer none],_,rfl,?_,x bG dP w' i k⟩⟩;obtain⟨bx,l,n,J,K,L⟩:=k;exact⟨⟨_,rfl,rfl⟩,bx,J,K,λ_=>⟨l,n,L,.inl rfl⟩⟩
   | buf e F =>
     obtain⟨M,G⟩:=aw z;have H:0<e.size:=by simpa using M
     obtain⟨v,C,I⟩:=cV G;obtain⟨y,o,p⟩:=bind_some I;obtain rfl:=aE p;obtain⟨m1,O⟩:=h.CZ (b:=b*1000+999-j) (e:=e) (tid:=F) C H;obtain⟨c,s,g,u,x⟩:=E m1 o;refine⟨c,s,O.trans g,u,λbG dP w' i k=>⟨[.slice none 0 0],_,rfl,?_,x bG dP w' i k⟩⟩;refine b5.ext (g.trans i) (v:=.whole (b*1000+999-j) v) (m:=.cells) ?_;exact⟨⟨_,rfl,rfl⟩,dJ (bk _ _) rfl ⟨e,0,rfl,rfl,.inl ⟨by simp[bq],rfl⟩⟩⟩
theorem IE(u:eS P cx){b:TypeId}{f k:Nat}{s:List mR}(h:cQ B N γ σ a w)(v:k<N)(x:find cx.sx b=some s)
  (y:((mkObj (f+k) (JL σ<|f+k) s 0 σ).bind λr=>r.2.aJ (f+k) r.1 b false λaI σ=>.ret (σ.put k<|.ptr (f+k) aI [])).run=some aV) :
  mb P B N γ σ a w (some k) (Instr.alloc b true<|.tuple #[]) aV:=by
 obtain⟨r,A,C⟩:=bind_some y;obtain⟨g,i,j,D,E⟩:=Ta h.ok A;obtain⟨aI,c,l⟩:=cV C;obtain rfl:=aE l;obtain⟨z,F,m⟩:=Za (u.sx _ _ x) w;have n:JL σ (f+k)<=aI:=by
  unfold JL;split
  .rename_i bx o;obtain⟨p,G,I,_⟩:=j.boxes _ bx o;have:=c p G;omega
  .exact pj _
 let bx:Box:={ val:=r.1,tid:=b,buf:=false,ro:=false,lk:=false,aI }
 have t:tV B w (w.alloc<|.cells z.cells b):=(tV.refl _ _).alloc i.base _;have hx:=tj (L:=some (w.heap.size,0)) i (bx:=bx) c t (cG w _);have q:cJ (bq g (f+k)<|some (w.heap.size,0)) (cB r.2.mem (f+k) bx) (w.alloc<|.cells z.cells b) (f+k) bx :=
  ⟨w.heap.size,0,z.cells,b,(0,0),by simp[bq],heap_alloc_new w _,rP _,.inr rfl,by
   rw[m];exact E _ _ _ hx ⟨bx,w.heap.size,0,bk _ _,n,by simp[bq]⟩⟩
 have m1:=i.add c t (cG w _) (λH k e=>by obtain⟨rfl,rfl⟩:=dz (aE e);exact⟨cD _,by simp⟩) q;refine⟨.pointer<|some ⟨w.heap.size,0,none⟩,_,_,?_,?_,j.trans hx⟩
 .simp only[Instr.alloc,Sem.run_bind,F,Result.andThen_ok,qD,Sem.run_pure]
 .have:=h.step (j.trans hx) m1 v (Bl (bx:=bx));rw[<-D] at this;exact this
theorem HO{b j:Nat}{v:aK}{e:St}{r:aK×St}(c:(mS b [] j v e).run=some r):r=(v,e):=by
 cases v with
 | data t x=>cases t<;>first|(obtain rfl:=aE c;rfl)|cases c
 | _=>cases c
theorem Es{b j:Nat}{f:mR}{q:List mR}{v:aK}{g:St}{r:aK×St}(c:(mS b (f::q) j v g).run=some r) :
  (∃x u y,v=.mix x u/\(mS b q (j+1) u g).run=some y/\r=(.mix x y.1,y.2)) \/
  (∃e h u,v=.mix .nJ u/\0<e.size/\(g.aJ (b*1000+999-j) (.data (.slice e) []) h true λi g=>(mS b q (j+1) u g).bind λx=>.ret (.mix (.whole (b*1000+999-j) i) x.1,x.2)).run=some r):=by
 cases v with
 | mix a u =>
   cases f with
   | zL t =>
     cases a with
     | data n z =>
       obtain⟨y,k,l⟩:=bind_some (show((mS b q (j+1) u g).bind λx=>.ret (.mix (.data n z) x.1,x.2)).run=some r from c);exact .inl ⟨_,u,y,rfl,k,(aE l).symm⟩
     | _=>cases c
   | one =>
     cases a with
     | dK =>
       obtain⟨y,k,l⟩:=bind_some (show((mS b q (j+1) u g).bind λx=>.ret (.mix .dK x.1,x.2)).run=some r from c);exact .inl ⟨_,u,y,rfl,k,(aE l).symm⟩
     | _=>cases c
   | buf e h =>
     cases a with
     | nJ =>
       obtain⟨o,m⟩:=aw c;exact .inr ⟨e,h,u,rfl,by simpa using o,m⟩
     | _=>cases c
   | self=>cases a<;>cases c
 | _=>cases f<;>cases c
theorem Tb{x:Operand}(h:ya x=true):x=.const (.slice none 0 0):=by
 unfold ya at h;split at h
 .rfl
 .cases h
theorem Np(n:eS P cx){C:TypeId}{x y:Operand}(E:ya y=true)(h:cQ B N γ σ a w)(o:(D6 cx C (cp σ x) σ).run=some aV) :
  ∃w' bG,(Instr.storeAt C (a.eval x)<|a.eval y).run P w=.ok () w'/\cQ B N bG aV a w'/\Ext B γ σ.mem w bG aV.mem w':=by
 obtain rfl:=Tb E;have hv:=h.cp x;unfold D6 at o;split at o
 case h_2=>exact absurd o (by intro k;cases k)
 rename_i b q p e F G;rw[F] at hv;obtain⟨H,r⟩:=aw o;have s:0<e.size:=by simpa using H
 obtain⟨v,i,c⟩:=cV r;obtain⟨m1,D⟩:=h.ok.CZ (b:=b*1000+990) (e:=e) (tid:=0) i s;have I:=h.go D m1;have j:b5 (bq γ (b*1000+990) none) (cB σ.mem (b*1000+990) { val:=.data (.slice e) ([]:List e.den),tid:=0,buf:=true,ro:=false,lk:=false,aI:=v }) w (.whole (b*1000+990) v) .cells [.slice none 0 0] :=
  ⟨⟨_,rfl,rfl⟩,dJ (bk _ _) rfl ⟨e,0,rfl,rfl,.inl ⟨by simp[bq],rfl⟩⟩⟩
 have l:b≠b*1000+990:=by omega
 obtain⟨m,t,g⟩:∃m,σ.mem b=some m/\m.aI=q:=by
  unfold oh at c;split at c
  case h_2=>exact absurd c (by intro k;cases k)
  rename_i m t;obtain⟨n,_⟩:=aw c;simp only[dF] at n;refine⟨m,?_,eT n.1.1.1.1⟩;rw[<-t];exact(aN _ l).symm
 obtain⟨u,z,J,f⟩:=ba t g hv.2;obtain f:a.eval x=_:=by simpa using f
 rw[f];have A:(bq γ (b*1000+990) none).loc b=some (u,z):=by
  show(if b=b*1000+990 then none else γ.loc b)=_
  rw[bb l];exact J
 obtain⟨w',K,L,M⟩:=Cc (P:=P) I c j rfl A;exact⟨w',_,vo ((n.T _ _ G).sizeOf w) rfl K,L,D.trans M⟩
theorem abW{c:Nat->Option Box}{v:aK}(g:b5 γ c w v .cells [.slice none 0 0]):∀{t:Ty} {k:Nat} {e:Ty},rM t k=some (.slice e)->b5 γ c w (afV t k v) .cells (dX t):=by
 intro t;induction t with
 | pair a b i f =>
   intro k e h;cases k with
   | zero =>
     obtain rfl:=aE (show some a=some (.slice e) from h);exact⟨[.slice none 0 0],dX b,rfl,g,F6 (v:=.data b b.zero) (jS w γ.I b)⟩
   | succ k=>exact⟨dX a,dX b,rfl,jS w γ.I a,f h⟩
 | _=>intro k e h;cases k<;>cases h
theorem z7{e:List Nat}{d:Option Nat}{b:List (Nat×Operand)}{c k:Nat}(h:zeroAt e d b=some (c,k)):d=some c/\b=[]:=by
 unfold zeroAt at h;split at h
 .split at h
  .obtain⟨rfl,_⟩:=dz (aE h);exact⟨rfl,rfl⟩
  .cases h
 .cases h
theorem IF(r:eS P cx){c:TypeId}{f k:Nat}{A:List Nat}{t:Ty}(h:cQ B N γ σ a w)(s:k<N)(u:find cx.T c=some t)
  (m:(tT f A k t σ).run=some aV):mb P B N γ σ a w (some k) (Instr.alloc c true<|.tuple #[]) aV:=by
 unfold tT at m;split at m
 .rename_i e _;obtain⟨C,n⟩:=aw m;have o:0<e.size:=by simpa using C
  obtain⟨v,j,p⟩:=cV n;obtain⟨m1,x⟩:=h.ok.CZ (b:=(f+k)*1000+999) (e:=e) (tid:=0) j o;obtain⟨D,g,q⟩:=cV p;obtain rfl:=aE q;obtain⟨i,z,E,J,F,G⟩:=(r.T _ _ u).info;have H:(zeroValue c).run P w=.ok z w:=by simp[zeroValue,typeInfo,E,F]
  have l:b5 (bq γ ((f+k)*1000+999) none) (cB σ.mem ((f+k)*1000+999) { val:=.data (.slice e) ([]:List e.den),tid:=0,buf:=true,ro:=false,lk:=false,aI:=v }) w (.whole ((f+k)*1000+999) v) .cells z.cells.toList:=by
   rw[G];exact⟨⟨_,rfl,rfl⟩,dJ (bk _ _) rfl ⟨e,0,rfl,rfl,.inl ⟨by simp[bq],rfl⟩⟩⟩
  obtain⟨I,y⟩:=m1.newVar (b:=f+k) (v:=.whole ((f+k)*1000+999) v) (tid:=0) g (cs:=z.cells) c (.inl rfl) l;refine⟨.pointer<|some ⟨w.heap.size,0,none⟩,_,_,?_,h.step (x.trans y) I s Bl,x.trans y⟩;simp only[Instr.alloc,Sem.run_bind,H,Result.andThen_ok,qD,Sem.run_pure]
 .exact S9 r h s u m
theorem Nq{b:Nat}:∀{n:List mR} {j:Nat} {v:aK} {σ:St} {γ:Gh} {r:aK×St} {cs:List Value},bu B γ σ.mem w->b5 γ σ.mem w v .cells cs->(mS b n j v σ).run=some r ->
  ∃c,bu B c r.2.mem w/\Ext B γ σ.mem w c r.2.mem w/\r.2.slots=σ.slots/\b5 c r.2.mem w r.1 .cells cs:=by
 intro n;induction n with
 | nil =>
   intro j v σ γ r cs h l o;obtain rfl:=HO o;exact⟨γ,h,Ext.refl _ _ _ _,rfl,l⟩
 | cons f q I =>
   intro j v σ γ r cs h l o;rcases Es o with ⟨x,u,y,rfl,p,rfl⟩|⟨e,s,u,rfl,K,t⟩
   .obtain⟨z,A,rfl,C,D⟩:=l;obtain⟨c,E,g,F,G⟩:=I h D p;exact⟨c,E,g,F,z,A,rfl,C.ext g,G⟩
   .obtain⟨k,i,H⟩:=cV t;obtain⟨y,p,L⟩:=bind_some H;obtain rfl:=aE L;obtain⟨z,A,rfl,C,D⟩:=l;obtain⟨m1,J⟩:=h.CZ (b:=b*1000+999-j) (e:=e) (tid:=s) i K;obtain⟨c,E,g,F,G⟩:=I m1 (D.ext J) p;obtain rfl:z=[.slice none 0 0]:=C;refine⟨c,E,J.trans g,F,[.slice none 0 0],A,rfl,?_,G⟩;refine b5.ext g (v:=.whole (b*1000+999-j) k) (m:=.cells) ?_;exact⟨⟨_,rfl,rfl⟩,dJ (bk _ _) rfl ⟨e,0,rfl,rfl,.inl ⟨by simp[bq],rfl⟩⟩⟩
theorem Nr{c:TypeId}{i k:Nat}{x:Operand}{n:List mR}(h:cQ B N γ σ a w)(o:k<N)(p:cp σ x≠.undef)(q:∀u,cp σ x≠.y7 u)
  (s:((mS (i+k) n 0 (cp σ x) σ).bind λr=>r.2.aJ (i+k) r.1 c false λf σ=>.ret (σ.put k<|.ptr (i+k) f [])).run=some aV) :
  mb P B N γ σ a w (some k) (Instr.box c<|a.eval x) aV:=by
 obtain⟨r,t,y⟩:=bind_some s;obtain⟨z,A,l,C,D⟩:=Nq h.ok ((h.cp x).kE q λe=>absurd e p) t;obtain⟨f,g,j⟩:=cV y;obtain rfl:=aE j;obtain⟨m1,m⟩:=A.newVar (b:=i+k) (v:=r.1) (tid:=c) g (cs:=(a.eval x).cells) c (.inr rfl) D;refine⟨.pointer<|some ⟨w.heap.size,0,none⟩,_,_,?_,?_,l.trans m⟩
 .simp only[Instr.box,Sem.run_bind,qD,Result.andThen_ok,Sem.run_pure]
 .have:=h.step (l.trans m) m1 o Bl;rw[<-C] at this;exact this
theorem Zg{c:TypeId}{i k:Nat}{x:Operand}(h:cQ B N γ σ a w)(m:k<N)(n:cp σ x≠.undef)(o:∀u,cp σ x≠.y7 u)
  (p:(σ.aJ (i+k) (cp σ x) 0 false λf σ=>.ret (σ.put k<|.ptr (i+k) f [])).run=some aV) :
  mb P B N γ σ a w (some k) (Instr.box c<|a.eval x) aV:=by
 obtain⟨f,g,j⟩:=cV p;obtain rfl:=aE j;obtain⟨m1,l⟩:=h.ok.newVar (b:=i+k) (v:=cp σ x) (tid:=0) g (cs:=(a.eval x).cells) c (.inl rfl) ((h.cp x).kE o λe=>absurd e n);refine⟨.pointer<|some ⟨w.heap.size,0,none⟩,_,_,?_,h.step l m1 m Bl,l⟩;simp only[Instr.box,Sem.run_bind,qD,Result.andThen_ok,Sem.run_pure]
theorem aef{b:Nat->Option Box}:∀{u v:aK} {k:Nat} {vs:List Value},b5 γ b w u .many vs->nth u k=some v->∃x,vs[k]?=some x/\b5 γ b w v .val [x]:=by
 intro u;induction u with
 | mix p q g f =>
   intro v k vs h e;obtain⟨c,r,rfl,i,j⟩:=h;cases k with
   | zero=>obtain rfl:=aE e;exact⟨c,rfl,i⟩
   | succ k=>obtain⟨x,l,m⟩:=f j e;exact⟨x,by simpa using l,m⟩
 | _=>intro v k vs h e;exact absurd e (by intro k;cases k)
theorem Nt{x:Operand}{k:Nat}{e v:aK}(h:cQ B N γ σ a w)(f:∀k,d=some k->k<N)(g:cp σ x=.y7 e)(i:nth e k=some v) :
  mb P B N γ σ a w d (Instr.extract (a.eval x) k) (σ.aS d v):=by
 have hv:=h.cp x;rw[g] at hv;obtain⟨b,c,j⟩:=hv;obtain c:a.eval x=_:=by simpa using c
 obtain⟨y,l,m⟩:=aef j i;refine bD h f (x:=y) ?_ m;rw[c];have:b[k]?=some y:=by simpa using l
 simp only[Instr.extract,this,Sem.run_pure]
theorem KQ:∀{ops:List Operand} {cs:List (Nat×Nat)},cQ B N γ σ a w->zT (ops.map<|cp σ)=some cs->cs.length=ops.length /\
  ∀(i:Nat) b aI,cs[i]?=some (b,aI)->mn σ.mem b aI λ_=>∃f g,γ.loc b=some (f,g)/\(ops.map a.eval)[i]?=some (.pointer<|some ⟨f,0,none⟩):=by
 intro ops;induction ops with
 | nil=>intro cs h c;obtain rfl:=aE c;exact⟨rfl,λi b aI k=>by cases k⟩
 | cons o r q =>
   intro cs h c;have n:=h.cp o;simp only[tg] at c;unfold zT at c;split at c
   .rename_i j;cases j
   .rename_i E p F j;injection j with s t
    subst t;rw[s] at n;cases l:zT (r.map<|cp σ) with
    | none=>rw[l] at c;cases c
    | some u =>
      rw[l] at c;obtain rfl:=aE c;obtain⟨v,x⟩:=q h l;refine⟨by simp[v],λi b aI k=>?_⟩;cases i with
      | zero =>
        obtain⟨rfl,rfl⟩:=dz (aE k);obtain⟨y,z,A,C⟩:=n.2;refine⟨y,z,A,λe=>?_⟩;obtain⟨f,g,D,m⟩:=C e;obtain m:a.eval o=_:=by simpa using m
        exact⟨f,g,D,by simp[m,cL]⟩
      | succ i =>
        have:=x i b aI (by simpa using k);simpa using this
   .cases c
theorem KR{f:Nat}{c:Array Operand}{n:List (Nat×Nat)}(h:cQ B N γ σ a w)(o:∀k,d=some k->k<N)(g:zT (c.toList.map<|cp σ)=some n) :
  Nat.blt f 10000000=true->mb P B N γ σ a w d (Instr.makeFunc (.func f) #[] (c.map a.eval)) (σ.aS d<|.fn f n):=by
 intro p;obtain⟨q,r⟩:=KQ h g;refine bD h o (x:=.func (.func f) #[] (c.map a.eval)) rfl ?_;refine⟨c.map a.eval,by unfold xe;rw[p];rfl,by rw[q];simp,λi b j s=>?_⟩;obtain⟨t,u,v,y⟩:=r i b j s;refine⟨t,u,v,λe=>?_⟩;obtain⟨l,m,z,A⟩:=y e;exact⟨l,m,z,by simpa using A⟩
theorem IG{f:Nat}{x:Operand}{m:List (Nat×Nat)}(h:cQ B N γ σ a w)(n:∀k,d=some k->k<N)(c:zT [cp σ x]=some m)(o:Nat.blt f 10000000=true) :
  mb P B N γ σ a w d (Instr.makeFunc (.func f) #[a.eval x] #[]) (σ.aS d<|.fn (f+10000000) m):=by
 obtain⟨p,q⟩:=KQ (ops:=[x]) h c;refine bD h n (x:=.func (.func f) #[a.eval x] #[]) rfl ?_;have r:Nat.blt (f+10000000) 10000000=false:=by
  cases s:Nat.blt (f+10000000) 10000000 with
  | false=>rfl
  | true=>have:=CO s;omega
 refine⟨#[a.eval x],by unfold xe;rw[r,show(f+10000000) % 10000000=f from by have:=CO o;omega];rfl,by simpa using p.symm,λi b g t=>?_⟩;obtain⟨u,v,y,z⟩:=q i b g t;refine⟨u,v,y,λe=>?_⟩;obtain⟨j,l,A,C⟩:=z e;exact⟨j,l,A,by simpa using C⟩
end
end Go.Ge
namespace Go.Ge
open RowKit
def VK(e:Gh)(c:Nat):Gh:={ e with I:=λb o=>e.I b o\/b=c }
theorem bu.af5{B:qA}{j:Gh}{e:Nat->Option Box}{w:World}(h:bu B j e w)(n:Array Value)(p:TypeId) :
  bu B (VK j w.heap.size) e (w.alloc<|.cells n p)/\Ext B j e w (VK j w.heap.size) e (w.alloc<|.cells n p):=by
 have hx:Ext B j e w (VK j w.heap.size) e (w.alloc<|.cells n p) :=
  { below:=(tV.refl _ _).alloc h.base _
    I:=λ_ _ x=>.inl x
    pC:=λc o x=>by
     rcases x with x|x
     .exact .inl x
     .exact .inr (.inl<|by rw[x];exact h.base)
    cells:=λc o x=>de (cG w _ c<|h.sV c o x)
    boxes:=λb m hb=>⟨m,hb,cD _,λ_=>⟨rfl,rfl,rfl⟩⟩ }
 refine⟨?_,hx⟩;have g:(w.alloc<|.cells n p).heap.size=w.heap.size+1:=by simp
 exact
  { cP:=h.Ei hx
    base:=by rw[g];exact Nat.le_succ_of_le h.base
    boxes:=λb m hb=>(h.boxes b m hb).keep hx rfl λc k l=>cG w _ c (h.fresh b c k (by rw[hb];simp) l).2
    inj:=h.inj
    fresh:=λb c k hb l=>by have:=h.fresh b c k hb l;exact⟨this.1,by rw[g];omega⟩
    sV:=λc i f=>by
     rw[g];rcases f with f|f
     .have:=h.sV c i f;omega
     .omega
    sep:=λb m c k i hb l f=>by
     rcases f with f|f
     .exact h.sep b m c k i hb l f
     .have:=(h.fresh b c k (by rw[hb];simp) l).2;omega }
theorem KT(b:Nat):∀(l:List Value) (k:Nat) (cells:Array Value),b+k+l.length<=cells.size ->
  (l.zipIdx k).foldl (λcs (x:Value×Nat)=>cs.setIfInBounds (b+x.2) x.1) cells=(aQ cells.toList (b+k) l).toArray
 | [],k,cells,h=>by simp[aQ]
 | v::r,k,cells,h=>by
   simp only[List.zipIdx_cons,XN];rw[KT b r (k+1) _<|by simp at h⊢;omega];have e:=list_seg_step cells.toList (b+k) v r (by simp at h⊢;omega)
   congr 1
   simpa [aQ,afp,x8] using e
theorem Bm{e:Nat->Option (Nat×Nat)}{b:Array Value}{i f c:Nat}{v:Value}{g:List (Nat×Value)}(k:e i=some (f,c))(j:v.cells.toList.length=c)
  (l:f+c<=b.size):Instr.fill e b ((i,v)::g)=Instr.fill e (aQ b.toList f v.cells.toList).toArray g:=by
 have h:v.cells.size=c:=by simpa using j
 have m:(v.cells.size≠c||f+v.cells.size > b.size)=false:=by
  simp only[BK,Vu];constructor
  .simp[h]
  .omega
 simp only[Instr.fill,k];rw[m];simp only[Kn,sR]
 congr 1
 rw[<-Array.foldl_toList,Array.toList_zipIdx];have:=KT f v.cells.toList 0 b (by rw[j];omega);simpa using this
theorem VL{w:World}{I:Nat->Nat->Prop}{u:Ty}{y:u.den}{f:List Value}(p:bB w I u y f):∀{t:Ty} {x g:t.den} {cs:List Value} {k o:Nat},
  bB w I t x cs->jr t k=some o->Kv t x k u y=some g->bB w I t g (aQ cs o f)/\o+f.length<=cs.length:=by
 intro t;induction t with
 | pair a b A i =>
   intro x g cs k o h c e;obtain⟨j,r,rfl,l,s⟩:=h;cases k with
   | zero =>
     simp only[jr,su] at c;subst c;simp only[Kv] at e;split at e
     .rename_i G C;obtain⟨q,D⟩:=Ty.kz C;subst q;subst D;obtain rfl:=aE e;have m:f.length=j.length:=by rw[p.length,l.length]
      refine⟨⟨f,r,?_,p,s⟩,by rw[iP];omega⟩;simp only[aQ,Kq,wY,pv];rw[m,BL]
     .cases e
   | succ k =>
     simp only[jr] at c;cases n:jr b k with
     | none=>rw[n] at c;cases c
     | some v =>
       rw[n] at c;simp only[FT,su] at c;simp only[Kv] at e;split at e
       .rename_i z E;obtain rfl:=aE e;obtain⟨F,H⟩:=i s n E;have m:=l.length;refine⟨⟨j,aQ r v f,?_,l,F⟩,by rw[iP];omega⟩;subst c;rw[<-m];simp only[aQ];first
         | (rw[Xx,oC,oC,x8,<-vZ,BL];simp[oC];done)
         | (rw[XR v j.length,Xx,oC,oC,x8,<-vZ,BL];simp[oC])
       .cases e
 | _=>intro x g cs k o h c;cases k<;>simp[jr] at c
theorem IH:∀{t:Ty} {k:Nat} {u:Ty},rM t k=some u->∃o,jr t k=some o:=by
 intro t;induction t with
 | pair a b e c =>
   intro k u h;cases k with
   | zero=>exact⟨0,rfl⟩
   | succ k =>
     obtain⟨o,f⟩:=c (show rM b k=some u from h);simp only[jr,f];exact⟨_,rfl⟩
 | _=>intro k u h;cases k<;>cases h
section
variable {P:Program} {B:qA} {N:Nat} {γ:Gh} {σ aV:St} {a:Act} {w:World} {d:Option Nat} {cx:Ctx}
theorem F7{place:Nat->Option (Nat×Nat)}{t:Ty}(m:∀k u o,rM t k=some u->jr t k=some o->place k=some (o,u.size)) :
  ∀{parts:List (Nat×Operand)} {x l:t.den} {cells:Array Value} {σ aV:St} {γ:Gh},cQ B N γ σ a w->bB w γ.I t x cells.toList->ga σ t x parts=some (l,aV) ->
   ∃b bG,Instr.fill place cells (parts.map λp=>(p.1,a.eval p.2))=some b/\cQ B N bG aV a w/\Ext B γ σ.mem w bG aV.mem w/\bB w bG.I t l b.toList:=by
 intro parts;induction parts with
 | nil =>
   intro x l cells σ aV γ h n c;obtain⟨rfl,rfl⟩:=dz (aE c);exact⟨cells,γ,rfl,h,Ext.refl _ _ _ _,n⟩
 | cons p r E =>
   obtain⟨k,o⟩:=p;intro x l cells σ aV γ h n c;simp only[ga] at c;split at c
   .rename_i u A;split at c
    .rename_i y bA F;split at c
     .rename_i R q;obtain⟨G,H,s,C,v,J⟩:=mr h (h.cp o) F;obtain f:a.eval o=_:=by simpa using J
      have g:(a.eval o).cells.toList=C:=by rw[f];exact qW v
      obtain⟨i,e⟩:=IH A;obtain⟨K,D⟩:=VL v (bB.mono s.I s.cells n) e q;have j:=v.length;obtain⟨b,z,L,M,O,Q⟩:=E (cells:=(aQ cells.toList i C).toArray) H (by simpa using K) c;refine⟨b,z,?_,M,s.trans O,Q⟩;simp only[tg];rw[Bm (m k u i A e) (by rw[g];exact j)<|by rw[j] at D;simpa using D,g];exact L
     .cases c
    .cases c
   .cases c
theorem zc{n:Nat}{e:Ty}{place:Nat->Option (Nat×Nat)}(u:∀k,place k=some (k*e.size,e.size)) :
  ∀{parts:List (Nat×Operand)} {l s:List e.den} {cells:Array Value} {σ aV:St} {γ:Gh},cQ B N γ σ a w->bB w γ.I (.arr n e) l cells.toList->fb σ e l parts=some (s,aV) ->
   ∃b bG,Instr.fill place cells (parts.map λp=>(p.1,a.eval p.2))=some b/\cQ B N bG aV a w/\Ext B γ σ.mem w bG aV.mem w/\bB w bG.I (.arr n e) s b.toList:=by
 intro parts;induction parts with
 | nil =>
   intro l s cells σ aV γ h v c;obtain⟨rfl,rfl⟩:=dz (aE c);exact⟨cells,γ,rfl,h,Ext.refl _ _ _ _,v⟩
 | cons p r J =>
   obtain⟨k,o⟩:=p;intro l s cells σ aV γ h v c;simp only[fb] at c;split at c
   .rename_i y bA K;cases f:Nat.blt k l.length with
    | false=>rw[f] at c;cases c
    | true =>
      rw[f] at c;simp only[eG] at c;have F:k<l.length:=by simpa using f
      obtain⟨x,L,z,t,A,M⟩:=mr h (h.cp o) K;obtain j:a.eval o=_:=by simpa using M
      have m:(a.eval o).cells.toList=t:=by rw[j];exact qW A
      obtain⟨G,C,O⟩:=bB.mono z.I z.cells v;have D:l.length=n:=G;have g:=A.length;have H:(k+1)*e.size<=n*e.size:=fN _ (by omega);rw[zQ] at H;have i:k*e.size+t.length<=cells.toList.length:=by rw[g,C];exact H
      have q:bB w x.I (.arr n e) (l.set k y) (aQ cells.toList (k*e.size) t) :=
       ⟨(@List.length_set _ l _ _).trans G,by rw[bH i];exact C,KJ D (by rw[C];exact cD _) O (by omega) A⟩
      obtain⟨b,E,Q,R,S,T⟩:=J (cells:=(aQ cells.toList (k*e.size) t).toArray) L (by simpa using q) c;refine⟨b,E,?_,R,z.trans S,T⟩;simp only[tg];rw[Bm (u k) (by rw[m];exact g)<|by rw[g] at i;simpa using i,m];exact Q
   .cases c
theorem pq.places{t:Ty}:∀{off:Nat} {e:List Field},pq P t off e->∃c:List (Nat×Nat),e.mapM (λf=>(P.info? f.type).map λi=>(f.offset,i.size))=some c /\
  ∀k u o,rM t k=some u->jr t k=some o->c[k]?=some (off+o,u.size):=by
 induction t with
 | pair a b n l =>
   intro off e h;obtain⟨f,r,rfl,p,E,q,F,s⟩:=h.cons;obtain⟨v,x,y⟩:=l s;obtain⟨i,z,A,C,_⟩:=q.info;refine⟨(f.offset,i.size)::v,by simp[A,x],λk u o j g=>?_⟩;cases k with
   | zero =>
     simp only[rM,jr,su] at j g;subst j g;simp[p,C]
   | succ k =>
     simp only[rM,jr] at j g;cases m:jr b k with
     | none=>rw[m] at g;cases g
     | some D =>
       rw[m] at g;simp only[FT,su] at g;have:=y k u D j m;rw[aa2,this]
       congr 2;omega
 | unit =>
   intro off e h;cases e with
   | nil=>exact⟨[],rfl,λk u o j=>by cases k<;>cases j⟩
   | cons f r=>simp[pq,ew] at h
 | _=>intro off e h;cases e<;>simp[pq,ew] at h
theorem HP{g:Nat->Option Box}:∀{c:List mR} {v:aK},qV c=some v->b5 γ g w v .cells (KG c):=by
 intro c;induction c with
 | nil=>intro v h;obtain rfl:=aE h;rfl
 | cons f r j =>
   intro v h;cases f with
   | zL t =>
     simp only[qV] at h;split at h
     .rename_i u b;obtain rfl:=aE h;exact⟨_,_,rfl,jS _ _ t,j b⟩
     .cases h
   | buf e i =>
     simp only[qV] at h;split at h
     .rename_i u b;obtain rfl:=aE h;exact⟨[.slice none 0 0],_,rfl,rfl,j b⟩
     .cases h
   | one =>
     simp only[qV] at h;split at h
     .rename_i u b;obtain rfl:=aE h;exact⟨[.pointer none],_,rfl,rfl,j b⟩
     .cases h
   | self=>cases h
theorem z8{place:Nat->Option (Nat×Nat)}{q:List mR}(s:∀k o f,yc q k=some o->q[k]?=some f->place k=some (o,f.size))(h:cQ B N γ σ a w) :
  ∀{parts:List (Nat×Operand)} {v m:aK} {cells:Array Value},b5 γ σ.mem w v .cells cells.toList->mj σ q v parts=some m ->
   ∃b,Instr.fill place cells (parts.map λp=>(p.1,a.eval p.2))=some b/\b5 γ σ.mem w m .cells b.toList:=by
 intro parts;induction parts with
 | nil=>intro v m cells n c;obtain rfl:=aE c;exact⟨cells,rfl,n⟩
 | cons p r G =>
   obtain⟨k,x⟩:=p;intro v m cells n c;simp only[mj] at c;split at c
   case h_2=>cases c
   rename_i o t R H f E J A;cases g:Nat.beq o H&&Nat.beq t.size f.size with
   | false=>rw[g] at c;cases c
   | true =>
     rw[g] at c;simp only[eG] at c;simp only[dF] at g;obtain rfl:=eT g.1;have i:=eT g.2;split at c
     case h_2=>cases c
     rename_i y j;split at c
     case h_2=>cases c
     rename_i S C;have hx:b5 γ σ.mem w (cp σ x) .cells (a.eval x).cells.toList:=(h.cp x).kE (λu e=>by rw[e] at j;cases j) (λe=>by rw[e] at j;cases j);have l:bB w γ.I t y (a.eval x).cells.toList:=JR j hx;obtain⟨K,_⟩:=F5 n E;have D:o+t.size<=cells.toList.length:=K;have F:(a.eval x).cells.toList.length=t.size:=l.length;have L:=KI (f:=λ_=>.ret (.data t y)) n E (λz M=>by obtain rfl:=aE M;exact l) C F;obtain⟨b,O,Q⟩:=G (cells:=(aQ cells.toList o (a.eval x).cells.toList).toArray) (by simpa using L) c;refine⟨b,?_,Q⟩;simp only[tg];rw[Bm (s k o f J A) (by rw[F];exact i)<|by rw[<-i];simpa using D];exact O
theorem II(r:eS P cx){t:TypeId}{g:List mR}{j p q:aK}{b:Array (Nat×Operand)}(h:cQ B N γ σ a w)(s:∀k,d=some k->k<N)(u:find cx.sx t=some g)
  (l:qV g=some j) (y:mj σ g j b.toList=some (.mix p q)) :
  mb P B N γ σ a w d (Instr.build t<|b.map λ(i,x)=>(i,a.eval x)) (σ.aS d<|.mix p q):=by
 have n:=r.sx _ _ u;simp only[KH,dF] at n;obtain⟨m,A⟩:=n;obtain⟨i,z,C,T,D,E⟩:=jt A;split at m
 case h_2=>cases m
 rename_i U F;obtain⟨G,H,I⟩:=Ek m;obtain⟨c,J,K,L,M,O,Q⟩:=z8 (place:=λk=>G.toArray[k]?) (λk o f R S=>by have:=I k o f R S;simpa using this) h
  (v:=j) (cells:=z.cells) (by rw[E];exact HP l) y
 have e:(Instr.build t<|b.map λ(i,x)=>(i,a.eval x)).run P w=.ok (.agg c) w:=by
  refine run_build w t _ _ ?_;unfold Program.built;simp only[C,F,D,H];simpa using J
 exact bD h s e ⟨K,L,by rw[<-M],O,Q⟩
theorem F8(q:eS P cx){t:TypeId}{j:List mR}{l:aK}{u:Ty.unit.den}{c:Array (Nat×Operand)}(h:cQ B N γ σ a w)(r:∀k,d=some k->k<N)(s:find cx.sx t=some j)
  (m:qV j=some l) (y:mj σ j l c.toList=some (.data .unit u)) :
  mb P B N γ σ a w d (Instr.build t<|c.map λ(i,x)=>(i,a.eval x)) (σ.aS d<|.data .unit ()):=by
 have p:=q.sx _ _ s;simp only[KH,dF] at p;obtain⟨n,A⟩:=p;obtain⟨i,z,C,O,D,E⟩:=jt A;split at n
 case h_2=>cases n
 rename_i Q F;obtain⟨G,H,I⟩:=Ek n;obtain⟨b,J,K⟩:=z8 (place:=λk=>G.toArray[k]?) (λk o f L M=>by have:=I k o f L M;simpa using this) h
  (v:=l) (cells:=z.cells) (by rw[E];exact HP m) y
 have g:(Instr.build t<|c.map λ(i,x)=>(i,a.eval x)).run P w=.ok (.agg b) w:=by
  refine run_build w t _ _ ?_;unfold Program.built;simp only[C,F,D,H];simpa using J
 have e:b.toList=[]:=K;exact bD h r g ⟨[],rfl,by rw[show b=#[] from SQ e];rfl⟩
theorem C2(g:eS P cx){t:TypeId}{u v:Ty}{b:Array (Nat×Operand)}{x:(Ty.pair u v).den}(h:cQ B N γ σ a w)(j:∀k,d=some k->k<N)(l:find cx.T t=some (.pair u v))
  (m:ga σ (.pair u v) (Ty.pair u v).zero b.toList=some (x,aV)) :
  mb P B N γ σ a w d (Instr.build t<|b.map λ(i,x)=>(i,a.eval x)) (aV.aS d<|.data (.pair u v) x):=by
 have f:=g.T _ _ l;obtain⟨K,n,p,_⟩:=f.pair;obtain⟨q,r,s⟩:=p.places;obtain⟨i,z,y,L,A,C⟩:=f.info;obtain⟨c,bG,D,E,F,G⟩:=F7 (place:=λk=>q.toArray[k]?) (λk u o H J=>by have:=s k u o H J;simpa using this) h
  (x:=(Ty.pair u v).zero) (cells:=z.cells) (by rw[C];exact jS w γ.I _) m
 have e:(Instr.build t<|b.map λ(i,x)=>(i,a.eval x)).run P w=.ok (.agg c) w:=by
  refine run_build w t _ _ ?_;unfold Program.built;simp only[y,n,A,r];simpa using D
 exact⟨_,_,bG,e,E.uo j ⟨_,G,rfl⟩,by cases d<;>exact F⟩
theorem KU(F:eS P cx){t:TypeId}{u v:Ty}{c k n:Nat}(h:cQ B N γ σ a w)(G:n<N)(H:find cx.T t=some (.pair u v))(m:(uf c n (.pair u v) k σ).run=some aV) :
  mb P B N γ σ a w (some n) (Instr.build t #[]) aV:=by
 have D:=F.T _ _ H;obtain⟨S,I,J,_⟩:=D.pair;obtain⟨U,K,V⟩:=J.places;obtain⟨i,z,L,W,M,O⟩:=D.info;unfold uf at m;split at m
 case h_2=>exact absurd m (by intro k;cases k)
 rename_i e Q;obtain⟨R,o⟩:=aw m;have p:0<e.size:=by simpa using R
 obtain⟨f,g,q⟩:=cV o;obtain rfl:=aE q;obtain⟨m1,E⟩:=h.ok.CZ (b:=c+n) (e:=e) (tid:=0) g p;have j:(Instr.build t #[]).run P w=.ok (.agg z.cells) w:=by
  refine run_build w t #[] _ ?_;unfold Program.built;simp only[L,I,M,K];rfl
 have l:b5 (bq γ (c+n) none) (cB σ.mem (c+n) { val:=.data (.slice e) ([]:List e.den),tid:=0,buf:=true,ro:=false,lk:=false,aI:=f }) w (.whole (c+n) f) .cells [.slice none 0 0] :=
  ⟨⟨_,rfl,rfl⟩,dJ (bk _ _) rfl ⟨e,0,rfl,rfl,.inl ⟨by simp[bq],rfl⟩⟩⟩
 have r:=abW l (t:=.pair u v) Q;refine⟨.agg z.cells,w,_,j,h.step E m1 G ?_,E⟩;rw[<-O] at r;cases k with
 | zero =>
   obtain⟨s,x,y,A,C⟩:=r;exact⟨s,x,by rw[<-y],A,C⟩
 | succ k =>
   obtain⟨s,x,y,A,C⟩:=r;exact⟨s,x,by rw[<-y],A,C⟩
theorem Et(m:eS P cx){t:TypeId}{n:Nat}{e:Ty}{b:Array (Nat×Operand)}{l:List e.den}(h:cQ B N γ σ a w)(o:∀k,d=some k->k<N)(p:find cx.T t=some (.arr n e))
  (q:fb σ e (List.replicate n e.zero) b.toList=some (l,aV)) :
  mb P B N γ σ a w d (Instr.build t<|b.map λ(i,x)=>(i,a.eval x)) (aV.aS d<|.data (.arr n e) l):=by
 have g:=m.T _ _ p;obtain⟨r,s,u,J⟩:=g.arr;obtain⟨j,K,v,y,L,M⟩:=u.info;obtain⟨i,z,A,O,C,D⟩:=g.info;obtain⟨c,bG,E,F,G,H⟩:=zc (n:=n) (place:=λk=>some (k*j.size,j.size)) (λk=>by rw[y]) h
  (l:=List.replicate n e.zero) (cells:=z.cells) (by rw[D];exact jS w γ.I (.arr n e)) q
 have f:(Instr.build t<|b.map λ(i,x)=>(i,a.eval x)).run P w=.ok (.agg c) w:=by
  refine run_build w t _ _ ?_;unfold Program.built;simp only[A,s,C,v];simpa using E
 exact⟨_,_,bG,f,F.uo o ⟨_,H,rfl⟩,by cases d<;>exact G⟩
theorem uu{e:Ty}{z:Value}(h:z.cells.toList=dX e)(i:0<e.size)(n:Nat):(madeCells z.cells<|n*e.size).toList=dX (.arr n e):=by
 have c:z.cells.size=e.size:=by rw[<-dS e,<-h];simp
 apply Nk;intro j;have hlen:(dX<|.arr n e).length=n*e.size:=by rw[dS];rfl
 rcases ud j (n*e.size) with f|f
 .have l:(madeCells z.cells<|n*e.size).toList[j]?=some (z.cells[j % z.cells.size]!):=by simp[madeCells,f]
  rw[l];have hdiv:j / e.size<n:=by rw[XB i];exact f
  have k:=eN (dX e) n (j / e.size) hdiv;rw[dS] at k;have b:=w9 j i;have g:j / e.size*e.size+j % e.size=j:=by rw[SN];exact SK j e.size
  have m:(dX<|.arr n e)[j]?=(dX e)[j % e.size]?:=by
   conv=>rhs;rw[<-k]
   rw[gm,bd b,l9,g];rfl
  rw[m,<-h,c];have o:j % e.size<z.cells.size:=by omega
  simp[o]
 .rw[Ni<|by simp[madeCells];omega,Ni (by omega)]
theorem Qy{w:World}{I:Nat->Nat->Prop}{e:Ty}{n:Nat}{l:List e.den}{b:Array Value}{t:TypeId}{f:Nat}{q:Nat×Nat}(h:bB w I (.arr n e) l b.toList)(r:w.heap[f]?=some (.cells b t q))
  (s:∀o,I f o) (u:n<=maxLen):bB w I (.slice e) l [.slice (some ⟨f,0,none⟩) n n]:=by
 obtain⟨v,A,y⟩:=h;have g:l.length=n:=v;refine .inr ⟨f,0,n,by rw[<-g],by rw[<-g];exact cD _,u,λi x z=>?_⟩;have k:l[i]?=some x:=z;have hi:i<n:=by have:=(ix.1 k).1;omega
 have p:=y i x k;refine⟨_,p.length,λj c m=>⟨?_,s _⟩,p⟩;rw[cell_of_heap r];rw[gm] at m;split at m
 .rw[l9] at m;rw[pv];simpa using m
 .cases m
theorem Aa(z:eS P cx){t:TypeId}{n:Nat}{e:Ty}{c:Array (Nat×Operand)}{l:List e.den}(h:cQ B N γ σ a w)(A:find cx.T t=some (.slice e))
  (L:n*e.size<=65536) (C:fb σ e (List.replicate n e.zero) c.toList=some (l,aV)) :
  ∃b bG f,0<e.size/\cQ B N bG aV a w/\Ext B γ σ.mem w bG aV.mem w/\bB w bG.I (.arr n e) l b.toList /\
   (Instr.buildSlice t n<|c.map λ(i,x)=>(i,a.eval x)).run P w=.ok (.slice (some ⟨w.heap.size,0,none⟩) n n) (w.alloc<|.cells b f):=by
 have D:=z.T _ _ A;obtain⟨f,r,E,M,s⟩:=D.slice;obtain⟨j,m,u,o,v,F⟩:=E.info;obtain⟨b,bG,y,G,H,J⟩:=zc (n:=n) (place:=λk=>some (k*j.size,j.size)) (λk=>by rw[o]) h
  (l:=List.replicate n e.zero) (cells:=madeCells m.cells (n*e.size)) (by rw[uu F s];exact jS w γ.I (.arr n e)) C
 refine⟨b,bG,f,s,G,H,J,?_⟩;have g:Instr.fill (λi=>some (i*j.size,j.size)) (madeCells m.cells<|n*j.size) (c.map λ(i,x)=>(i,a.eval x)).toList=some b:=by rw[o] at y⊢;simpa using y
 by_cases p:n*j.size=0
 .have q:madeCells m.cells (n*j.size)=#[]:=by rw[p];simp[madeCells]
  rw[q] at g;simp only[O6] at g;simp[Instr.buildSlice,run_underlying r,Go.sizeOf,typeInfo,zeroValue,u,v,p,newRow];have K:(Array.map (λx:Nat=>(default:Value))<|Array.range 0)=#[]:=by simp[Array.range]
  rw[K,g];rfl
 .exact run_buildSlice w t f n _ b j m r u v (by rw[o];omega) p g
theorem F9(q:eS P cx){t:TypeId}{n:Nat}{e:Ty}{b:Array (Nat×Operand)}{l:List e.den}(h:cQ B N γ σ a w)(r:∀k,d=some k->k<N)(s:find cx.T t=some (.slice e))
  (j:Nat.ble (n*e.size) 65536=true) (u:fb σ e (List.replicate n e.zero) b.toList=some (l,aV)) :
  mb P B N γ σ a w d (Instr.buildSlice t n<|b.map λ(i,x)=>(i,a.eval x)) (aV.aS d<|.data (.slice e) l):=by
 have j:n*e.size<=65536:=CO j;obtain⟨c,bG,m,y,p,z,A,f⟩:=Aa (n:=n) q h s j u;obtain⟨m1,g⟩:=p.ok.af5 c m;refine⟨_,_,_,f,p.aS g m1 r (v:=.data (.slice e) l) ⟨[.slice (some ⟨w.heap.size,0,none⟩) n n],?_,rfl⟩,by cases d<;>exact z.trans g⟩;refine Qy (bB.mono g.I g.cells A) (heap_alloc_new w _) (λo=>.inr rfl) ?_;have:n*1<=n*e.size:=Nat.mul_le_mul_left _ y;have:(65536:Nat)<=maxLen:=by decide
 omega
theorem KV(A:eS P cx){t:TypeId}{n:Nat}{e:Ty}{c:Array (Nat×Operand)}{l:List e.den}{p k:Nat}{g:St}(h:cQ B N γ σ a w)(C:k<N)(D:find cx.T t=some (.slice e))
  (q:Nat.ble (n*e.size) 65536=true) (E:fb σ e (List.replicate n e.zero) c.toList=some (l,g))
  (F:(g.aJ (p+k) (.data (.slice e) l) 0 true λaI σ=>.ret (σ.put k<|.whole (p+k) aI)).run=some aV) :
  mb P B N γ σ a w (some k) (Instr.buildSlice t n<|c.map λ(i,x)=>(i,a.eval x)) aV:=by
 have q:n*e.size<=65536:=CO q;obtain⟨f,bG,r,y,s,G,H,j⟩:=Aa (n:=n) A h D q E;obtain⟨aI,m,u⟩:=cV F;obtain rfl:=aE u;obtain⟨o,I,J⟩:=H;have o:l.length=n:=o;have v:n<=maxLen:=by
  have:n*1<=n*e.size:=Nat.mul_le_mul_left _ y;have:(65536:Nat)<=maxLen:=by decide
  omega
 obtain⟨K,z⟩:=s.ok.KK (w':=w.alloc (.cells f r)) (b:=p+k) (e:=e) (l:=l) (tid:=0) (aI:=aI) (cap:=n) m y
  ((tV.refl _ _).alloc s.ok.base _) (cG w _) (heap_alloc_new w _) (uq _ _) (.inl rfl) (zR o) v (by simpa using I) J
 refine⟨_,_,_,j,s.step z K C ?_,G.trans z⟩;exact⟨⟨_,rfl,rfl⟩,dJ (bk _ _) rfl ⟨e,n,rfl,by rw[<-o];rfl,.inr ⟨w.heap.size,n,by simp[bq],rfl⟩⟩⟩
theorem Qz{b:Type}{l r:List b}{c:b}{j:Nat}(h:l.length=j):(l++([c]++r)).take (j+1)=l++[c]:=by
 subst h;rw[List.take_append,zN (by omega)];simp
theorem QA{place:Nat->Option (Nat×Nat)}(C:∀k,place k=some (k,1))(h:cQ B N γ σ a w) :
  ∀{parts:List (Nat×Operand)} {k:Nat} {v:aK} {cells:Array Value},cells.size=k+parts.length->zU σ k parts=some v ->
   ∃g:List Value,Instr.fill place cells (parts.map λp=>(p.1,a.eval p.2))=some (cells.toList.take k++g).toArray/\b5 γ σ.mem w v .cells g:=by
 intro parts;induction parts with
 | nil =>
   intro k v cells A m;obtain rfl:=aE m;refine⟨[],?_,rfl⟩;have:cells.toList.take k=cells.toList:=zN (by simp only[gi,v7] at A;simp[A]);rw[this];simp[Instr.fill]
 | cons p r H =>
   obtain⟨j,x⟩:=p;intro k v cells A m;simp only[zU] at m;cases D:Nat.beq j k with
   | false=>rw[D] at m;cases m
   | true =>
     rw[D] at m;simp only[eG] at m;obtain rfl:=eT D;simp only[dW] at A;have key:∀(u o:aK) (c:Value),(∀t,u≠.y7 t)->u≠.undef->cp σ x=u->zU σ (j+1) r=some o->v=.mix u o->(a.eval x).cells.toList=[c] ->
       ∃g:List Value,Instr.fill place cells (((j,x)::r).map λp=>(p.1,a.eval p.2))=some (cells.toList.take j++g).toArray/\b5 γ σ.mem w v .cells g:=by
      intro u o c I J n i E l;have hx:=h.cp x;rw[n] at hx;have s:=hx.kE I (λe=>absurd e J);have hlen:(aQ cells.toList j [c]).length=cells.toList.length:=bH (by simp;omega);obtain⟨g,K,L⟩:=H (k:=j+1) (cells:=(aQ cells.toList j [c]).toArray) (by simp only[Iv,hlen,Kl];omega) i;have M:(aQ cells.toList j [c]).take (j+1)=cells.toList.take j++[c]:=by
       have:(cells.toList.take j).length=j:=by rw[gM,Kl];omega
       simp only[aQ];rw[oC,Qz this]
      refine⟨c::g,?_,?_⟩
      .simp only[tg];rw[Bm (C j) (by rw[l];rfl)<|by omega,l,K];rw[M];simp
      .rw[E];exact⟨[c],g,rfl,by rw[l] at s;exact s,L⟩
     split at m
     .rename_i o n i;obtain rfl:=aE m;have hx:=h.cp x;rw[n] at hx;obtain hx:a.eval x=_:=by simpa [b5] using hx
      exact key .dK o (.pointer none) (λt e=>by cases e) (λe=>by cases e) n i rfl (by rw[hx];rfl)
     .rename_i b F q o n i;obtain rfl:=aE m;have hx:=h.cp x;rw[n] at hx;obtain⟨⟨y,O,G⟩,_⟩:=hx;obtain rfl:a.eval x=y:=by simpa using O
      refine key (.ptr b F q) o (a.eval x) (λt e=>by cases e) (λe=>by cases e) n i rfl ?_;generalize a.eval x=y at G⊢;cases y<;>first|rfl|(simp[Value.oneCell'] at G)
     .rename_i f c o n i;obtain rfl:=aE m;have hx:=h.cp x;rw[n] at hx;obtain⟨z,hx,_,_⟩:=hx;obtain hx:a.eval x=_:=by simpa using hx
      exact key (.fn f c) o (xe f z) (λt e=>by cases e) (λe=>by cases e) n i rfl (by rw[hx];exact HJ f z)
     .cases m
theorem Nu(y:eS P cx){t:TypeId}{A n:Nat}{c:Array (Nat×Operand)}(h:cQ B N γ σ a w)(G:∀k,d=some k->k<N)
  (p:(Bi cx A d t n c.toList σ).run=some aV):mb P B N γ σ a w d (Instr.buildSlice t n<|c.map λ(i,x)=>(i,a.eval x)) aV:=by
 unfold Bi at p;split at p
 case h_2=>cases p
 rename_i k e v H I;obtain⟨C,r⟩:=aw p;simp only[dF] at C;obtain⟨⟨J,K⟩,s⟩:=C;obtain rfl:=eT J;have L:0<c.toList.length:=by simpa using K
 have D:c.toList.length<=64:=CO s;obtain⟨M,O⟩:=yj y H;obtain⟨_,Q,z,R,_⟩:=y.qx _ O;obtain⟨f,E,q⟩:∃f,P.info? e=some f/\f.size=1:=by
  have:=Q w;cases hi:P.info? e with
  | none=>simp[Go.sizeOf,typeInfo,hi] at this
  | some f=>simp[Go.sizeOf,typeInfo,hi] at this;exact⟨f,rfl,this⟩
 obtain⟨g,S⟩:∃g,f.zero=some g:=by
  have:=R w;cases hi:f.zero with
  | none=>simp[zeroValue,typeInfo,E,hi] at this
  | some g=>exact⟨g,rfl⟩
 obtain⟨T,l,u⟩:=cV r;obtain rfl:=aE u;obtain⟨m,U,V⟩:=QA (place:=λi=>some (i*f.size,f.size)) (λj=>by rw[q];simp) h (k:=0) (cells:=(Array.range<|c.toList.length*f.size).map (g.cells[· % g.cells.size]!)) (by simp[q]) I;have o:=run_buildSlice w t e c.toList.length (c.map λ(i,x)=>(i,a.eval x)) _ f g M E S (by rw[q];omega) (by rw[q];omega) (by rw[O6];exact U);obtain⟨m1,F⟩:=h.ok.newVar (b:=A+k) (v:=v) (tid:=0) l (cs:=((((Array.range<|c.toList.length*f.size).map (g.cells[· % g.cells.size]!)).toList.take 0)++m).toArray) e (.inl rfl) (by simpa using V);refine⟨_,_,_,o,h.step F m1 (G k rfl) ?_,F⟩;refine⟨⟨_,rfl,rfl⟩,dJ (bk _ _) rfl ⟨by simp,w.heap.size,0,by simp[bq],by omega,by omega,by omega,_,_,rfl,by simp,.inr ?_⟩⟩;simp[cL]
theorem Ga(p:eS P cx){t:TypeId}{e:Ty}{j k:Nat}(h:cQ B N γ σ a w)(q:k<N)(r:find cx.T t=some (.slice e))
  (s:(σ.aJ (j+k) (.data (.slice e) ([]:List e.den)) 0 true λaI σ=>.ret (σ.put k<|.whole (j+k) aI)).run=some aV) :
  mb P B N γ σ a w (some k) (Instr.buildSlice t 0 #[]) aV:=by
 obtain⟨c,u,v,E,y⟩:=(p.T _ _ r).slice;obtain⟨F,G,A,H,C,I⟩:=v.info;obtain⟨aI,f,m⟩:=cV s;obtain rfl:=aE m;have g:(Instr.buildSlice t 0 #[]).run P w=.ok (.slice (some ⟨w.heap.size,0,none⟩) 0 0) (w.alloc<|.cells #[] c):=by
  simp[Instr.buildSlice,run_underlying u,Go.sizeOf,typeInfo,zeroValue,A,C,newRow,Instr.fill];have n:(Array.map (λx:Nat=>(default:Value))<|Array.range 0)=#[]:=by simp[Array.range]
  rw[n]
 obtain⟨D,o⟩:=h.ok.KK (w':=w.alloc (.cells #[] c)) (b:=j+k) (e:=e) (l:=([]:List e.den)) (tid:=0) (aI:=aI) (cap:=0) f y
  ((tV.refl _ _).alloc h.ok.base _) (cG w _) (heap_alloc_new w _) (uq _ _) (.inl rfl) (cD _) (pj _) (by simp) (λi z n=>by cases n)
 refine⟨_,_,_,g,h.step o D q ?_,o⟩;exact⟨⟨_,rfl,rfl⟩,dJ (bk _ _) rfl ⟨e,0,rfl,rfl,.inr ⟨w.heap.size,0,by simp[bq],rfl⟩⟩⟩
end
end Go.Ge
namespace Go.Ge
open RowKit
section
variable {P:Program} {B:qA} {N:Nat} {γ:Gh} {σ aV:St} {a:Act} {w w':World} {d:Option Nat} {cx:Ctx}
theorem C3:(4294967296:Nat)<=maxLen:=by decide
theorem Eu{n:Nat}(h:fits (n:Int)=true):n<=4294967296:=by simp[fits] at h;omega
theorem Ab{b:TypeId}{e:TypeInfo}(c:F3 P b=true)(f:P.info? b=some e):e.bytes<=32768:=by
 unfold F3 at c;rw[f] at c;exact CO c
theorem xr{mem:Nat->Option Box}{b cap blk:Nat}{bx:Box}{e:Ty}{n:Nat}(c:bx.buf=true)(f:bx.row=some (e,n)) :
  b5 (bq γ b<|some (blk,cap)) (cB mem b bx) w' (.whole b bx.aI) .val [.slice (some ⟨blk,0,none⟩) n cap] :=
 ⟨⟨_,rfl,rfl⟩,dJ (bk _ _) rfl ⟨e,n,c,f,.inr ⟨blk,cap,by simp[bq],rfl⟩⟩⟩
theorem IJ(K:eS P cx){t:TypeId}{u k:Nat}{e:Ty}{x y:Operand}{D E:IntKind}{l c:Int}(h:cQ B N γ σ a w)(L:k<N)(M:find cx.T t=some (.slice e))
  (O:cp σ x=.data (.int D) l) (Q:cp σ y=.data (.int E) c) (A:inside 0 l c=true) (R:fits c=true)
  (S:(σ.aJ (u+k) (.data (.slice e)<|iB l e.zero) 0 true λaI σ=>.ret (σ.put k<|.whole (u+k) aI)).run=some aV) :
  mb P B N γ σ a w (some k) (Instr.makeSlice t (a.eval x)<|a.eval y) aV:=by
 obtain⟨aI,p,C⟩:=cV S;obtain rfl:=aE C;obtain⟨_,U,V⟩:=iS A;have F:c<=4294967296:=by simpa [fits] using R
 have q:=h.cp x;have r:=h.cp y;rw[O] at q;rw[Q] at r;obtain⟨W,_⟩:=sy q;obtain⟨X,_⟩:=sy r;obtain⟨m,Y,Z,f3,G⟩:=(K.T _ _ M).slice;obtain⟨o,v,H,I,e3,e4⟩:=Z.info;have hb:=Ab f3 H;have f:(o.bytes:Int)*c<=281474976710656:=by
  have:(o.bytes:Int)*c<=32768*c:=Int.mul_le_mul_of_nonneg_right (by omega) (by omega);omega
 have s:=run_make (P:=P) w t m o v Y H e3 D E l c U V f (by omega);have g:(madeCells v.cells<|c.toNat*o.size).toList=dX (.arr c.toNat e):=by rw[I];exact uu e4 G _
 have hlen:(iB l e.zero).length=l.toNat:=by simp[iB]
 obtain⟨m1,J⟩:=h.ok.KK (w':=w.alloc (.cells (madeCells v.cells<|c.toNat*o.size) m)) (b:=u+k) (e:=e) (l:=iB l e.zero) (tid:=0) (aI:=aI) (cap:=c.toNat) p G
  ((tV.refl _ _).alloc h.ok.base _) (cG w _) (heap_alloc_new w _) (uq _ _) (.inl rfl) (by rw[hlen];omega) (by have:=C3;omega)
  (by rw[I];exact size_madeCells _ _) (λi z hz=>by
   rw[g];have j:(List.replicate l.toNat e.zero)[i]?=some z:=hz;rw[OY] at j;split at j
   .rename_i hi;obtain rfl:e.zero=z:=by simpa using j
    have:=eN (dX e) c.toNat i (by omega);rw[dS] at this;rw[show dX (.arr c.toNat e)=(List.replicate c.toNat<|dX e).flatten from rfl,this];exact jS _ _ _
   .cases j)
 refine⟨_,_,_,by rw[W,X];exact s,h.step J m1 L ?_,J⟩;have:=xr (γ:=γ) (w':=w.alloc (.cells (madeCells v.cells<|c.toNat*o.size) m)) (mem:=σ.mem) (b:=u+k) (cap:=c.toNat) (blk:=w.heap.size)
  (bx:={ val:=.data (.slice e) (iB l e.zero),tid:=0,buf:=true,ro:=false,lk:=false,aI }) (e:=e) (n:=l.toNat) rfl (by rw[<-hlen];rfl)
 exact this
theorem QB(b:UInt8):IntKind.u8.min<=((b.toNat:Int))/\((b.toNat:Int))<=IntKind.u8.max:=u8_in b
theorem QC(l:List Int):(⟨(aX l).toArray⟩:ByteArray)=strOfNums l:=rfl
theorem Zh{I:Nat->Nat->Prop}{l:List Int}{v:Value}{b dst e:TypeId}(h:z6 w I (.int .u8) l v)(m:P.underlying b=some (.slice e))(n:P.underlying e=some (.int .u8))(o:P.underlying dst=some .string) :
  (convert b dst v).run P w=.ok (.string ⟨(aX l).toArray⟩) w/\l.length<=maxLen:=by
 rcases h with ⟨rfl,k,c,p,s,q⟩|⟨f,g,c,p,s,q,u⟩
 .rcases q with rfl|⟨f,g,rfl⟩
  .rw[p];refine⟨?_,pj _⟩;cases k with
   | none=>exact run_convert_bytes_nil w b e m n 0 0 dst o
   | some t =>
     rw[run_convert_bytes_string w b dst e _ _ _ m n o];have x:(loadCells t 0).run P w=.ok #[] w:=run_loadCells_list (P:=P) w t [] (λj v y=>by cases y);simp[Conv.bytesToString,Sem.run_bind,x,aX];rfl
  .rw[p];refine⟨?_,pj _⟩;exact run_convert_bytes_arg w b e m n f g 0 c [] rfl (λi r=>by omega) dst o
 .rw[p];refine⟨?_,iz s q⟩;rw[QC];refine run_convert_bytes_arg w b e m n f g l.length c l rfl (λi r=>?_) dst o;obtain⟨C,D,z,A⟩:=u i l[i] (jE r);obtain⟨rfl,_⟩:=A;have:=z 0 _ rfl;simp only[Ty.size,B7,v7] at this;rw[this];simp[List.getD,jE r]
theorem Gb(l:List Int):(aX l).length=l.length:=by simp[aX]
theorem bytesRow_at{s:aq}{cap i:Nat}{b:UInt8}(c:s[i]?=some b):((bytesRow ⟨s.toArray⟩ cap).toList.drop<|i*1).take 1=[.int .u8 (b.toNat:Int)]:=by
 have hi:=(ix.1 c).1;apply Nk;intro j;rw[gm];split
 .rename_i e;obtain rfl:j=0:=by omega
  rw[l9];simp only[bytesRow,B7,v7,O2,O6];rw[Qh<|by simpa using hi];simp[c]
 .rename_i e;rw[Ni<|by simp;omega]
theorem Nv(s:ByteArray){cap:Nat}(h:s.size<=cap):(bytesRow s cap).size=cap:=by
 simp only[bytesRow,abh,Array.size_map,Array.size_replicate];have:s.data.size=s.size:=rfl;omega
theorem KW(C:eS P cx){r k:Nat}{j dst:TypeId}{x:Operand}{s:aq}(h:cQ B N γ σ a w)(F:k<N)(G:find cx.T j=some .str)(t:find cx.T dst=some (.slice<|.int .u8))
  (H:cp σ x=.data .str s) (I:(σ.aJ (r+k) (.data (.slice<|.int .u8)<|av s) 0 true λaI σ=>.ret (σ.put k<|.whole (r+k) aI)).run=some aV) :
  mb P B N γ σ a w (some k) (convert j dst<|a.eval x) aV:=by
 have hv:=h.cp x;rw[H] at hv;obtain⟨J,K⟩:=we hv;obtain⟨aI,m,u⟩:=cV I;obtain rfl:=aE u;obtain⟨c,L,M,R,S⟩:=(C.T _ _ t).slice;have g:=run_bytes_of_string (P:=P) w j dst c ⟨s.toArray⟩ (C.T _ _ G).str L M.int;have p:(⟨s.toArray⟩:ByteArray).size=s.length:=by simp[ByteArray.size]
 rw[p] at g;have q:=grownCap_ge w s.length 0 c;have v:=grownCap_le_maxLen w s.length 0 c K;have y:=Nv ⟨s.toArray⟩ (cap:=grownCap w s.length 0 c) (by rw[p];exact q);have hlen:(av s).length=s.length:=by simp[av]
 generalize D:grownCap w s.length 0 c=cap at *;obtain⟨m1,E⟩:=h.ok.KK (b:=r+k) (e:=.int .u8) (l:=(av s:List Int)) (tid:=0) (aI:=aI) (cap:=cap)
  (w':=w.drew.alloc (.cells (bytesRow ⟨s.toArray⟩ cap) c ((bytesRow ⟨s.toArray⟩ cap).size,(bytesRow ⟨s.toArray⟩ cap).size+1)))
  m (by decide) ((tV.refl B w).drew.alloc h.ok.base _) (cG w.drew _) (heap_alloc_new w.drew _) ⟨λo U V=>by omega,λO=>by cases O⟩ (.inl rfl) (iz (zR hlen) q) v
  (by rw[y];exact(B7 _).symm) (λi z Q=>by
   have f:(av s)[i]?=some z:=Q;simp only[av,Kj] at f;cases A:s[i]? with
   | none=>rw[A] at f;cases f
   | some b =>
     rw[A] at f;obtain rfl:(b.toNat:Int)=z:=aE f;exact⟨bytesRow_at (cap:=cap) A,QB b⟩)
 refine⟨_,_,_,by rw[J];exact g,h.step E m1 F ?_,E⟩;have:=xr (γ:=γ) (mem:=σ.mem) (b:=r+k) (cap:=cap) (blk:=w.heap.size)
  (bx:={ val:=.data (.slice<|.int .u8) (av s),tid:=0,buf:=true,ro:=false,lk:=false,aI }) (e:=.int .u8) (n:=s.length)
  (w':=w.drew.alloc (.cells (bytesRow ⟨s.toArray⟩ cap) c ((bytesRow ⟨s.toArray⟩ cap).size,(bytesRow ⟨s.toArray⟩ cap).size+1))) rfl (by rw[<-hlen];rfl)
 exact this
theorem Ev(e:eS P cx){q:Nat}{g dst:TypeId}{x:Operand}(h:cQ B N γ σ a w)(j:∀k,d=some k->k<N)(c:(gD cx q d g dst (cp σ x) σ).run=some aV) :
  mb P B N γ σ a w d (convert g dst<|a.eval x) aV:=by
 have hv:=h.cp x;unfold gD at c;split at c
 .rename_i z k A n f b i;rw[i] at hv;obtain⟨m,_⟩:=sy hv;obtain rfl:=aE c;refine bD h j (x:=.int k (k.wrap n)) ?_ (mkInt<|fi _ _);rw[m];simp[convert,run_underlying (e.T _ _ f).int,run_underlying (e.T _ _ b).int,Conv.intToInt]
 .rename_i s f b i;rw[i] at hv;obtain rfl:=aE c;obtain⟨m,p⟩:=we hv;refine bD h j (x:=a.eval x) ?_ hv;rw[m];simp[convert,run_underlying (e.T _ _ f).str,run_underlying (e.T _ _ b).str]
 .rename_i s f b i;split at c
  .rename_i k;obtain⟨C,o⟩:=ck c;exact KW e h (j k rfl) f b i o
  .exact absurd c (by intro k;cases k)
 .rename_i D f b;split at c
  .rename_i l p;obtain rfl:=aE c;obtain⟨r,t,u,E,F⟩:=(e.T _ _ f).slice;obtain⟨v,y⟩:=Zh (dst:=dst) (qC h.ok hv p) t u.int (e.T _ _ b).str;refine bD h j v ⟨_,⟨rfl,?_⟩,rfl⟩;exact iz (zR<|Gb l) y
  .exact absurd c (by intro k;cases k)
 .exact absurd c (by intro k;cases k)
end
end Go.Ge
namespace Go.Ge
open RowKit
section
variable {P:Program} {B:qA} {N:Nat} {γ:Gh} {σ aV:St} {a:Act} {w w':World} {d:Option Nat} {cx:Ctx}
def eQ(w:World)(I:Nat->Nat->Prop)(e:Ty)(l:List e.den)(cs:List Value):Prop :=
 ∀(i:Nat) (x:e.den),l[i]?=some x->bB w I e x ((cs.drop<|i*e.size).take e.size)
theorem mU{c:Type}{a b:List c}{i s:Nat}(h:(i+1)*s<=a.length):((a++b).drop<|i*s).take s=(a.drop<|i*s).take s:=by
 rw[zQ] at h;rw[YZ<|by omega,Y0 (by rw[ma];omega)]
theorem eQ.append{I:Nat->Nat->Prop}{e:Ty}{l m:List e.den}{c f rest:List Value}(j:eQ w I e l c)(k:eQ w I e m f)(g:c.length=l.length*e.size)(n:f.length=m.length*e.size) :
  eQ w I e (l++m) (c++f++rest):=by
 intro i x b;rw[Sz] at b;split at b
 .rename_i h;have o:(i+1)*e.size<=l.length*e.size:=fN _ h;rw[oC,mU (by omega)];exact j i x b
 .rename_i h;have p:i-l.length<m.length:=(ix.1 b).1;have o:(i-l.length+1)*e.size<=m.length*e.size:=fN _ p;have q:i*e.size=c.length+(i-l.length)*e.size:=by rw[g,<-gn];congr 1;omega
  rw[oC,q,<-vZ,BL,mU (by omega)];exact k _ x b
theorem eQ.front{I:Nat->Nat->Prop}{e:Ty}{l:List e.den}{b:List Value}{n:Nat}(h:eQ w I e l b)(f:l.length*e.size<=n)(g:n<=b.length):eQ w I e l (b.take n):=by
 intro i x c;have hi:i<l.length:=(ix.1 c).1;have j:(i+1)*e.size<=l.length*e.size:=fN _ hi;have:(((b.take n)++b.drop n).drop<|i*e.size).take e.size=((b.take n).drop<|i*e.size).take e.size:=mU (by rw[gM];omega);rw[<-this,x6];exact h i x c
theorem aeg{I:Nat->Nat->Prop}{e:Ty}{m:List e.den}{v:Value}{o z p:TypeId}(q:(∃p,P.underlying o=some (.slice p))\/P.underlying o=some .string)(l:P.underlying z=some (.slice p))(h:z6 w I e m v) :
  ∃b,Src P e.size o v m.length b w/\eQ w I e m b:=by
 suffices ∃b,Src P e.size z v m.length b w/\eQ w I e m b by
  obtain⟨b,c,r⟩:=this;exact⟨b,⟨q,c.len,c.cells,c.cellsD,c.newsLen,c.one⟩,r⟩
 rcases h with ⟨rfl,g,f,n,C,A⟩|⟨s,t,f,n,C,A,D⟩
 .refine⟨[],?_,λi x E=>by cases E⟩;rcases A with rfl|⟨s,t,rfl⟩
  .rw[n];cases g with
   | none=>exact Src.ofNil w l 0
   | some F=>exact Src.ofSlice w l F 0 0 [] (by simp) (λj u k=>by cases k) (λu y=>by cases y)
  .rw[n];exact Src.ofSlice w l _ 0 f [] (by simp) (λj u k=>by cases k) (λu y=>by cases y)
 .obtain⟨b,c,r,G,H⟩:=C1 (w:=w) D;refine⟨b,?_,H⟩;rw[n];exact Src.ofSlice w l _ m.length f b c (λj u k=>by rw[addr_add];exact r j u k) G
theorem aeh{I:Nat->Nat->Prop}{s:aq}{g:TypeId}(k:(∃l,P.underlying g=some (.slice l))\/P.underlying g=some .string) :
  ∃e,Src P 1 g (.string ⟨s.toArray⟩) (av s).length e w/\eQ w I (.int .u8) (av s:List Int) e:=by
 have hlen:(av s).length=(⟨s.toArray⟩:ByteArray).size:=by simp[av,ByteArray.size]
 refine⟨byteCells ⟨s.toArray⟩,by rw[hlen];exact⟨k,λ_=>rfl,firstCells_string _ w,firstCells_string _ w.drew,by rw[byteCells_length,B7],λu m=>by
  obtain⟨_,_,rfl⟩:=vb.1 m;rfl⟩,λi x n=>?_⟩
 have c:(av s)[i]?=some x:=n;simp only[av,Kj] at c;cases h:s[i]? with
 | none=>rw[h] at c;cases c
 | some b =>
   rw[h] at c;obtain rfl:(b.toNat:Int)=x:=aE c;refine⟨?_,QB b⟩;apply Nk;intro j;rw[gm];split
   .rename_i f;obtain rfl:j=0:=by simp[Ty.size] at f;exact f
    rw[l9];simp[byteCells,Ty.size,h]
   .rename_i f;rw[Ni<|by simp[Ty.size] at f⊢;omega]
theorem Ac{I:Nat->Nat->Prop}{t tx ty b:TypeId}{e:Ty}{l m:List e.den}{base:Option Addr}{sCap:Nat}{olds c:List Value}{x:Value}(A:P.underlying t=some (.slice b))(C:Den P e b)(D:F3 P b=true)
  (f:(Builtin.firstCells e.size l.length<|.slice base l.length sCap).run P w.drew=.ok olds.toArray w.drew) (g:olds.length=l.length*e.size) (E:eQ w I e l olds)
  (j:Src P e.size tx x m.length c w) (F:eQ w I e m c) (v:sCap<l.length+m.length) (G:l.length+m.length<=4294967296) :
  ∃(cap:Nat) (cells:Array Value),(Builtin.append_ #[t,tx] ty #[.slice base l.length sCap,x]).run P w=.ok (.slice (some ⟨w.heap.size,0,none⟩) (l.length+m.length) cap) (w.drew.alloc<|.cells cells b) /\
   l.length+m.length<=cap/\cap<=maxLen/\cells.size=cap*e.size/\eQ w I e (l++m) cells.toList:=by
 obtain⟨k,n,y,z,H,J⟩:=C.info;have o:=Ab D y;have h:=growslice_fits (need:=l.length+m.length) (old:=sCap) (bytes:=k.bytes) v (by
  have:(l.length+m.length)*k.bytes<=4294967296*32768:=Nat.mul_le_mul G o;omega)
 have i:=run_append_grow_src (P:=P) w t tx ty b k n A y H base l.length sCap olds (by rw[z];exact f) x m.length c (by rw[z];exact j) v (by omega) h;have p:=grownCap_ge w (l.length+m.length) sCap b;have q:=grownCap_le_maxLen w (l.length+m.length) sCap b (by have:=C3;omega);have r:n.cells.size=e.size:=by rw[<-dS e,<-J];simp
 refine⟨_,_,i,p,q,?_,?_⟩
 .have s:=j.newsLen;have u:(Builtin.zeroCells n.cells<|grownCap w (l.length+m.length) sCap b-(l.length+m.length)).size=(grownCap w (l.length+m.length) sCap b-(l.length+m.length))*e.size:=by
   simp[Builtin.zeroCells,r]
  rw[abh,u];simp only[Iv,iP,g,s];rw[<-gn,<-gn]
  congr 1;omega
 .rw[O2];exact E.append F g j.newsLen
theorem bu.grow{r:Nat->Option Box}(h:bu B γ r w){b:Nat}{bx:Box}(A:r b=some bx){e:Ty}{l l':List e.den}(p:bx.buf=true)(G:bx.val=.data (.slice e) l){g cap:Nat}(hl:γ.loc b=some (g,cap))
  {s cur':Array Value} {t:TypeId} {fr:Nat×Nat} (Q:w.heap[g]?=some (.cells s t fr)) (H:ThB e s fr) (aec:bx.tid=0\/t=bx.tid) (R:cur'.size=s.size) (D:∀o,o<l.length*e.size->cur'[o]?=s[o]?)
  (he:0<e.size) (J:l.length<=l'.length) (af6:l'.length<=cap) (abX:cap<=maxLen) (K:s.size=cap*e.size) (L:eQ w γ.I e l' cur'.toList) :
  let j:Box:={ bx with val:=.data (.slice e) l',aI:=bx.aI+1 }
  bu B γ (cB r b j) (w.setRow g cur')/\Ext B γ r w γ (cB r b j) (w.setRow g cur'):=by
 intro j;have T:=h.fresh b g cap (by rw[A];simp) hl;have af7:=setRow_heap w g s cur' t fr Q;have m:∀i,i≠g->(w.setRow g cur').heap[i]?=w.heap[i]?:=λi y=>setRow_other w g i cur' (λe=>y e);have C:=Box.df p G;have hx:Ext B γ r w γ (cB r b j) (w.setRow g cur') :=
  { below:=⟨rfl,rfl,rfl,by simp,λi y=>m i λe=>y (by rw[e];exact T.1)⟩
    I:=λ_ _ x=>x
    pC:=λ_ _ x=>.inl x
    cells:=λc o x=>by
     by_cases v:c=g
     .subst v;have:=(h.sep b bx c cap o A hl x).2 p e l.length C;rw[cell_of_heap af7,cell_of_heap Q];exact D o this
     .exact de (m c v)
    boxes:=λc cx q=>by
     by_cases v:c=b
     .subst v;obtain rfl:cx=bx:=aE (q.symm.trans A);exact⟨j,bk _ _,Nat.le_succ _,λk=>absurd k (by simp[j])⟩
     .exact⟨cx,by rw[aN _ v];exact q,cD _,λ_=>⟨rfl,rfl,rfl⟩⟩ }
 refine⟨?_,hx⟩;exact
  { cP:=h.Ei hx
    base:=by have:=h.base;simpa using this
    boxes:=λc cx q=>by
     by_cases v:c=b
     .subst v;rw[bk] at q;obtain rfl:=aE q;unfold cJ;simp only[j,p];exact⟨e,l',rfl,he,.inr ⟨g,cap,cur',t,fr,hl,af7,H.same R,aec,af6,abX,by rw[R];exact K,λi x y=>bB.mono hx.I hx.cells (L i x y)⟩⟩
     .rw[aN _ v] at q;refine(h.boxes c cx q).keep hx rfl λf E M=>m f λU=>v ?_;subst U;exact h.inj c b f E cap (by rw[q];simp) (by rw[A];simp) M hl
    inj:=λc d f V W q X F Y=>h.inj c d f V W (by
     by_cases e:c=b
     .subst e;rw[A];simp
     .rwa [aN _ e] at q) (by
     by_cases e:d=b
     .subst e;rw[A];simp
     .rwa [aN _ e] at X) F Y
    fresh:=λc f E q F=>by
     have:=h.fresh c f E (by
      by_cases e:c=b
      .subst e;rw[A];simp
      .rwa [aN _ e] at q) F
     exact⟨this.1,by simpa using this.2⟩
    sV:=λf z y=>by have:=h.sV f z y;simpa using this
    sep:=λc cx f E z q F y=>by
     by_cases v:c=b
     .subst v;rw[bk] at q;obtain rfl:=aE q;obtain⟨Z,s2⟩:=h.sep c bx f E z A F y;refine⟨Z,λ_ u n S=>?_⟩;have O:j.row=some (e,l'.length):=Box.df (bx:=j) p rfl;rw[O] at S;obtain⟨rfl,rfl⟩:=dz (aE S);have:=s2 p e l.length C;exact CP this (fN _ J)
     .rw[aN _ v] at q;exact h.sep c cx f E z q F y }
theorem abY(j:bu B γ σ.mem w){e:Ty}{m:List e.den}{x:aK}{v:Value}{f k g:TypeId}(c:(∃g,P.underlying f=some (.slice g))\/P.underlying f=some .string)(l:P.underlying k=some (.slice g))
  (i:b5 γ σ.mem w x .val [v]) (h:ug e σ x=some m):∃b,Src P e.size f v m.length b w/\eQ w γ.I e m b:=by
 unfold ug at h;split at h
 .rename_i t;obtain⟨q,n⟩:=jP h;subst q;subst n;obtain⟨o,_⟩:=we i;rw[o];exact aeh c
 .exact aeg c l (qC j i h)
theorem yl{α:Type}{c:Bool}{t:Tree α}{y:α}(h:(bif c then .fail else t).run=some y):c=false/\t.run=some y:=by
 cases c with
 | true=>cases h
 | false=>exact⟨rfl,h⟩
theorem pE{base:Option Addr}{t i ty f:TypeId}{b:Nat}{x:Value}{c:List Value}(j:P.underlying t=some (.slice f))(g:(Go.sizeOf f).run P w=.ok b w)(e:Src P b i x 0 c w) :
  (Builtin.append_ #[t,i] ty #[.slice base 0 0,x]).run P w=.ok (.slice base 0 0) w:=by
 cases base with
 | none=>rcases e.kind with ⟨k,h⟩|h<;>simp[Builtin.append_,run_underlying j,run_underlying h,g,e.len,e.cells]
 | some m =>
   have l:c=[]:=by have:=e.newsLen;simpa using this
   subst l;rcases e.kind with ⟨k,h⟩|h<;>simp[Builtin.append_,run_underlying j,run_underlying h,g,e.len,e.cells,storeCells]
theorem BO(b:Nat)(c:Option Addr):(Builtin.firstCells b 0<|.slice c 0 0).run P w=.ok #[] w:=by
 cases c with
 | none=>exact run_firstCells_none w b 0 0 0
 | some e=>exact run_firstCells_some w b 0 e 0 0 [] (by simp) (λj v f=>by cases f)
theorem kF{t tx ty h:TypeId}{c:Nat}{x:Value}{e:List Value}{n b sCap f:Nat}{cur:Array Value}{o:TypeId}{k:Nat×Nat}(q:P.underlying t=some (.slice h))(l:(Go.sizeOf h).run P w=.ok c w)
  (j:Src P c tx x n e w) (r:w.heap[f]?=some (.cells cur o k)) (m:lU cur k) (g:b+n<=sCap) (s:b*c+e.length<=cur.size) :
  (Builtin.append_ #[t,tx] ty #[.slice (some ⟨f,0,none⟩) b sCap,x]).run P w=.ok (.slice (some ⟨f,0,none⟩) (b+n) sCap) (w.setRow f (aQ cur.toList (b*c) e).toArray):=by
 have i:=cS (P:=P) f (b*c) o k e 0 cur w r m (by omega) j.one;simp only[v7] at i;rcases j.kind with ⟨u,p⟩|p<;>simp[Builtin.append_,run_underlying q,run_underlying p,l,j.len,g,j.cells,addr_add,i]
theorem C4{b es:List Value}{k o:Nat}(h:o<k)(c:k<=b.length):(aQ b k es)[o]?=b[o]?:=by
 rw[aQ,oC,Qh (by rw[gM];omega),gm,bd h]
theorem Gc(hc:eS P cx){nb:Nat}{t tx ty:TypeId}{s x:Operand}(h:cQ B N γ σ a w)(hd:∀k,d=some k->k<N)(hk0:(∃e',P.underlying tx=some (.slice e'))\/P.underlying tx=some .string)
  (H:(gV cx nb d t (cp σ s) (cp σ x) σ).run=some aV):mb P B N γ σ a w d (Builtin.append_ #[t,tx] ty #[a.eval s,a.eval x]) aV:=by
 have Q:=h.cp s;have hvx:=h.cp x;unfold gV at H;split at H
 case h_2=>exact absurd H (by intro k;cases k)
 rename_i _ _ k e hT;obtain⟨y,R,f2,f3,f4⟩:=(hc.T _ _ hT).slice;have V:=f2.sizeOf w;split at H
 case h_2=>exact absurd H (by intro k;cases k)
 rename_i m hm;have hm:ug e σ (cp σ x)=some m:=hm;obtain⟨z,W,n2⟩:=abY h.ok hk0 R hvx hm;split at H
 .rename_i hs;rw[hs] at Q;obtain J:a.eval s=_:=by simpa [b5] using Q
  obtain⟨S,X⟩:=ck H;have S:m.length<=4294967296:=Eu S;obtain⟨aI,E,hr3⟩:=cV X;obtain rfl:=aE hr3;rw[J];rcases SE m.length with D|D
  .obtain rfl:m=[]:=vY.1 D;obtain⟨m1,r⟩:=h.ok.CZ (b:=nb+k) (tid:=0) E f4;refine⟨_,_,_,pE R V W,h.step r m1 (hd k rfl) ?_,r⟩;exact⟨⟨_,rfl,rfl⟩,dJ (bk _ _) rfl ⟨e,0,rfl,rfl,.inl ⟨by simp[bq],rfl⟩⟩⟩
  .obtain⟨cap,f,g1,g2,O,g4,g5⟩:=Ac (I:=γ.I) (ty:=ty) (l:=([]:List e.den)) (base:=none) (sCap:=0) (olds:=[]) R f2 f3 (by simpa using run_firstCells_none w.drew e.size 0 0 0) (by simp) (λi x hx=>by cases hx) W n2
    (by simpa using D) (by simpa using S)
   simp only[gi,pv,wY] at g1 g2 g5;obtain⟨m1,r⟩:=h.ok.KK (b:=nb+k) (e:=e) (l:=m) (tid:=0) (aI:=aI) (cap:=cap) E f4 ((tV.refl B w).drew.alloc h.ok.base _) (cG w.drew _) (heap_alloc_new w.drew _) (uq _ _) (.inl rfl) g2 O g4 g5;refine⟨_,_,_,g1,h.step r m1 (hd k rfl) ?_,r⟩;exact xr (bx:={ val:=.data (.slice e) m,tid:=0,buf:=true,ro:=false,lk:=false,aI }) (e:=e) (n:=m.length) rfl rfl
 .rename_i b aI hs;rw[hs] at Q;split at H
  case h_2=>exact absurd H (by intro k;cases k)
  rename_i bx l Y hl;obtain⟨Z,hb',E,c,hbv⟩:∃bx,σ.mem b=some bx/\bx.aI=aI/\bx.buf=true/\bx.val=.data (.slice e) l:=by
   rcases mq hl with q|⟨q,_⟩|⟨b',alz,Z,q,h1,K,h3,h4⟩|⟨_,_,_,_,_,q,_⟩
   .cases q
   .cases q
   .cases q;exact⟨Z,h1,K,h3,h4⟩
   .cases q
  obtain rfl:bx=Z:=aE (Y.symm.trans hb')
  .obtain⟨hlk,hr1⟩:=yl H;obtain⟨S,X⟩:=ck hr1;obtain rfl:=aE X;have S:l.length+m.length<=4294967296:=by
    have:fits (((l.length+m.length:Nat)):Int)=true:=by rw[<-S];simp[plus,len]
    exact Eu this
   have U:bx.tid=0\/y=bx.tid:=by
    simp only[BK,O4] at hlk;have K:=hlk.2;unfold afW at K;simp only[x7] at K;rcases K with K|K
    .exact .inl (eT K)
    .split at K
     .rename_i e' he';have:=hc.XW _ _ he';rw[R] at this;have h4:y=e':=by injection this with this;injection this
      exact .inr (h4.trans<|eT K)
     .cases K
   subst E;obtain⟨e2,n2',g1,g2,O⟩:=ba Y rfl Q.2;rw[Box.df c hbv] at g2;obtain⟨rfl,rfl⟩:=dz (aE g2);have hat:=h.ok.boxes b bx Y;rw[cJ,c] at hat;obtain⟨e3,l3,q1,q2,G⟩:=hat;rw[hbv] at q1;cases q1;have g:(app (α:=e.den) l m).length=l.length+m.length:=iP;rcases O with ⟨O,g4⟩|⟨A,cap,O,g4⟩
   .obtain J:a.eval s=_:=by simpa using g4
    have hl0:l=[]:=by
     rcases G with ⟨_,G⟩|⟨A,cap,u,tid,fr,G,_⟩
     .exact G
     .rw[O] at G;cases G
    subst hl0;rw[J];rcases SE m.length with D|D
    .obtain rfl:m=[]:=vY.1 D;have M:cJ (bq γ b none) (cB σ.mem b { bx with val:=.data (.slice e) ([]:List e.den),aI:=bx.aI+1 }) w b { bx with val:=.data (.slice e) ([]:List e.den),aI:=bx.aI+1 }:=by
      unfold cJ;simp only[c];exact⟨e,[],rfl,f4,.inl ⟨by simp[bq],rfl⟩⟩
     have C:∀p,σ.mem b=some p->p.aI<bx.aI+1:=λp D=>by rw[Y] at D;obtain rfl:=aE D;omega
     have m1:=h.ok.add (L:=none) C (tV.refl B w) (λ_ _=>rfl) (λA k e=>by cases e) M;have r:=tj (L:=none) h.ok (bx:={ bx with val:=.data (.slice e) ([]:List e.den),aI:=bx.aI+1 }) C (tV.refl B w) (λ_ _=>rfl);refine⟨_,_,_,pE R V W,h.step r m1 (hd k rfl) ?_,r⟩;exact⟨⟨_,rfl,rfl⟩,dJ (bk _ _) rfl ⟨e,0,c,Box.df (bx:={ bx with val:=.data (.slice e) ([]:List e.den),aI:=bx.aI+1 }) c rfl,.inl ⟨by simp[bq],rfl⟩⟩⟩
    .obtain⟨cap,f,j1,j2,j3,j4,j5⟩:=Ac (I:=γ.I) (ty:=ty) (l:=([]:List e.den)) (base:=none) (sCap:=0) (olds:=[]) R f2 f3 (by simpa using BO (w:=w.drew) e.size none) (by simp) (λi x hx=>by cases hx) W n2
      (by simpa using D) (by simpa using S)
     have C:∀p,σ.mem b=some p->p.aI<bx.aI+1:=λp D=>by rw[Y] at D;obtain rfl:=aE D;omega
     have hw:tV B w (w.drew.alloc<|.cells f y):=(tV.refl B w).drew.alloc h.ok.base _;have r:=tj (L:=some (w.heap.size,cap)) h.ok (bx:={ bx with val:=.data (.slice e) (app (α:=e.den) [] m),aI:=bx.aI+1 }) C hw (cG w.drew _);have M:cJ (bq γ b<|some (w.heap.size,cap)) (cB σ.mem b { bx with val:=.data (.slice e) (app (α:=e.den) [] m),aI:=bx.aI+1 }) (w.drew.alloc<|.cells f y) b { bx with val:=.data (.slice e) (app (α:=e.den) [] m),aI:=bx.aI+1 }:=by
      unfold cJ;simp only[c];exact⟨e,_,rfl,f4,.inr ⟨w.heap.size,cap,f,y,(0,0),by simp[bq],heap_alloc_new w.drew _,uq _ _,U,by rw[g];exact j2,j3,j4,λi x hi=>bB.mono r.I r.cells (j5 i x hi)⟩⟩
     have m1:=h.ok.add (L:=some (w.heap.size,cap)) C hw (cG w.drew _) (λA k e=>by obtain⟨rfl,rfl⟩:=dz (aE e);exact⟨cD _,(u9.1<|heap_alloc_new w.drew _).1⟩) M;refine⟨_,_,_,j1,h.step r m1 (hd k rfl) ?_,r⟩;exact xr (bx:={ bx with val:=.data (.slice e) (app (α:=e.den) [] m),aI:=bx.aI+1 }) (e:=e) (n:=List.length (α:=e.den) []+m.length) c (by rw[<-g];exact Box.df (bx:={ bx with val:=.data (.slice e) (app (α:=e.den) [] m),aI:=bx.aI+1 }) c rfl)
   .obtain J:a.eval s=_:=by simpa using g4
    rw[J];rcases G with ⟨G,_⟩|⟨aea,aeb,u,tid,fr,G,q4,q5,ahk,q6,q7,q8,q9⟩
    .rw[O] at G;cases G
    rw[O] at G;obtain⟨rfl,rfl⟩:=dz (aE G);have hcl:u.toList.length=cap*e.size:=by simpa using q8
    have hlc:l.length*e.size<=cap*e.size:=fN _ q6;rcases ud cap (l.length+m.length) with hgt|hle
    .have hfc:=run_firstCells_some (P:=P) w.drew e.size l.length ⟨A,0,none⟩ l.length cap (u.toList.take<|l.length*e.size) (by rw[gM];omega) (λj v hj=>by
      rw[addr_add];show w.cell? ⟨A,0+j,none⟩=some v
      rw[cell_of_heap q4];rw[gm] at hj;split at hj
      .simpa using hj
      .cases hj)
     obtain⟨F,f,j1,j2,j3,j4,j5⟩:=Ac (I:=γ.I) (ty:=ty) (l:=l) (base:=some ⟨A,0,none⟩) (sCap:=cap) R f2 f3 hfc (by rw[gM];omega) (eQ.front q9 (cD _)<|by omega) W n2 hgt S;have C:∀p,σ.mem b=some p->p.aI<bx.aI+1:=λp D=>by rw[Y] at D;obtain rfl:=aE D;omega
     have hw:tV B w (w.drew.alloc<|.cells f y):=(tV.refl B w).drew.alloc h.ok.base _;have r:=tj (L:=some (w.heap.size,F)) h.ok (bx:={ bx with val:=.data (.slice e) (app (α:=e.den) l m),aI:=bx.aI+1 }) C hw (cG w.drew _);have M:cJ (bq γ b<|some (w.heap.size,F)) (cB σ.mem b { bx with val:=.data (.slice e) (app (α:=e.den) l m),aI:=bx.aI+1 }) (w.drew.alloc<|.cells f y) b { bx with val:=.data (.slice e) (app (α:=e.den) l m),aI:=bx.aI+1 }:=by
      unfold cJ;simp only[c];exact⟨e,_,rfl,f4,.inr ⟨w.heap.size,F,f,y,(0,0),by simp[bq],heap_alloc_new w.drew _,uq _ _,U,by rw[g];exact j2,j3,j4,λi x hi=>bB.mono r.I r.cells (j5 i x hi)⟩⟩
     have m1:=h.ok.add (L:=some (w.heap.size,F)) C hw (cG w.drew _) (λA k e=>by obtain⟨rfl,rfl⟩:=dz (aE e);exact⟨cD _,(u9.1<|heap_alloc_new w.drew _).1⟩) M;refine⟨_,_,_,j1,h.step r m1 (hd k rfl) ?_,r⟩;exact xr (bx:={ bx with val:=.data (.slice e) (app (α:=e.den) l m),aI:=bx.aI+1 }) (e:=e) (n:=l.length+m.length) c (by rw[<-g];exact Box.df (bx:={ bx with val:=.data (.slice e) (app (α:=e.den) l m),aI:=bx.aI+1 }) c rfl)
    .have hnl:=W.newsLen;have hmul:(l.length+m.length)*e.size<=cap*e.size:=fN _ hle;rw[gn] at hmul;have hlen:l.length*e.size+z.length<=u.toList.length:=by rw[hnl,hcl];exact hmul
     have af9:=kF (P:=P) (t:=t) (tx:=tx) (ty:=ty) (sCap:=cap) R V W q4 q5.th hle (by simpa using hlen);have aiT:(aQ u.toList (l.length*e.size) z).toArray.size=u.size:=by have:=bH hlen;simpa using this
     obtain⟨m1,r⟩:=h.ok.grow Y c hbv O q4 q5 ahk (cur':=(aQ u.toList (l.length*e.size) z).toArray) (l':=app (α:=e.den) l m) aiT (λo ho=>by
      have:=C4 (es:=z) ho (by omega:l.length*e.size<=u.toList.length);simpa using this) f4 (by rw[g];omega) (by rw[g];exact hle) q7 q8 (by
      have:=(eQ.front q9 (cD _) (by omega:l.length*e.size<=u.toList.length)).append (rest:=u.toList.drop (l.length*e.size+z.length)) n2 (by rw[gM];omega) hnl;exact this)
     refine⟨_,_,γ,af9,h.step r m1 (hd k rfl) ?_,r⟩;exact⟨⟨_,rfl,rfl⟩,dJ (bk _ _) rfl ⟨e,l.length+m.length,c,by rw[<-g];exact Box.df (bx:={ bx with val:=.data (.slice e) (app (α:=e.den) l m),aI:=bx.aI+1 }) c rfl,.inr ⟨A,cap,O,rfl⟩⟩⟩
 .exact absurd H (by intro k;cases k)
end
end Go.Ge
