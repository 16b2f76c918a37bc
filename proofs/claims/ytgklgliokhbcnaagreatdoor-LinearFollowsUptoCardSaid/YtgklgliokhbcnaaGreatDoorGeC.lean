import Derived.Test.YtgklgliokhbcnaaGreatDoorGeB
set_option linter.unusedVariables false
set_option linter.unusedSimpArgs false
set_option linter.unusedSectionVars false
set_option linter.defProp false
open Option renaming some->aa,none->af
open Sum renaming inr->aA
namespace Go.Ge
open RowKit
section
variable {P:Program} {B:B5} {N:Nat} {γ:Gh} {σ aV:St} {a:Act} {w:World} {d:Option Nat} {cx:Ctx}
def I4{s b k f u}(e:P.underlying s=aa (.struct b))(g:b.toList[k]?=aa f)(h:Den P u f.type)(j:0<u.size) blk off :
  (Instr.fieldAt s (.pointer<|some ⟨blk,off,af⟩) k).run P w=.ok (.pointer<|some ⟨blk,off+f.offset,af⟩) w:=by
 have c:b[k]?=aa f:=by simpa using g
 have i:¬(u.size=0):=ah;simp only[Instr.fieldAt,Sem.run_bind,run_underlying e,Result.andThen_ok,c,Instr.sureAddr,Sem.run_pure,fieldPlace,h.sizeOf w,aK i,addr_add]
def RI{s b k f i}(g:P.underlying s=aa (.struct b))(h:b.toList[k]?=aa f)(j:P.info? f.type=aa i)(m:0<i.size) blk off :
  (Instr.fieldAt s (.pointer<|some ⟨blk,off,af⟩) k).run P w=.ok (.pointer<|some ⟨blk,off+f.offset,af⟩) w:=by
 have c:b[k]?=aa f:=by simpa using h
 have l:¬(i.size=0):=ah;have e:(Go.sizeOf f.type).run P w=.ok i.size w:=by simp[Go.sizeOf,typeInfo,j]
 simp only[Instr.fieldAt,Sem.run_bind,run_underlying g,Result.andThen_ok,c,Instr.sureAddr,Sem.run_pure,fieldPlace,e,aK l,addr_add]
def EJ{t s}(g:Den P t s){k u o}(e:xn t k=aa u)(h:iF t k=aa o) :
  ∃(c:Array Field) (f:Field),P.underlying s=aa (.struct c)/\c.toList[k]?=aa f/\f.offset=o/\Den P u f.type/\0<u.size:=by
 cases t with
 | pair a b =>
   obtain⟨c,j,i,_⟩:=g.pair;obtain⟨f,l,m,n,p⟩:=i.at e h
   grind
 | _=>cases k<;>cases e
def DZ(G:fN P cx){s x k}(h:dy B N γ σ a w)(H:∀k,d=aa k->k<N)(r:(fc cx d s (cW σ x) k σ).run=aa aV) :
  oT P B N γ σ a w d (Instr.fieldAt s (a.eval x) k) aV:=by
 have hv:=h.cW x;unfold fc at r;split at r
 .rename_i u y I;rw[I] at hv;obtain⟨J,c⟩:=ay r;split at c
  .rename_i o t z S;obtain rfl:=aI c;obtain⟨g,l,U,K,V,W⟩:=hv;obtain K:a.eval x=_:=by simpa using K
   obtain⟨t',z',X,Y,Z,e4,e5⟩:=EI V S;cases X;obtain⟨O,f,A,C,Q,D,E⟩:=EJ (G.T _ _<|jz J) Y Z;refine bK h H (by rw[K];exact I4 A C D E g l) ⟨g,l+f.offset,(U.drop o).take t.size,rfl,e5,λj v F=>?_⟩;rw[jM] at F;split at F
   .rw[va] at F;have:=W _ v F
    grind
   .cases F
  .cases c
 .rename_i b aP p I;rw[I] at hv;obtain⟨J,c⟩:=ay r;obtain⟨R,m,n⟩:=kR J;split at c
  .rename_i t hT;split at c
   .rename_i l u L hu;obtain rfl:=aI c;obtain⟨g,q,M,e⟩:=bk m n hv.2;obtain e:a.eval x=_:=by simpa using e
    obtain⟨O,f,A,C,Q,D,E⟩:=EJ (G.T _ _ hT) hu L;refine bK h H (by rw[e];exact I4 A C D E g _) ⟨⟨_,rfl,rfl⟩,R,m,ah,λ_=>⟨g,q,M,?_⟩⟩;rw[B4];simp[ef]
   .cases c
  .split at c
   .rename_i O hO;split at c
    .rename_i l L;obtain rfl:=aI c;obtain⟨g,q,M,e⟩:=bk m n hv.2;obtain e:a.eval x=_:=by simpa using e
     obtain⟨gs,f,i,A,C,Q,D,E⟩:=agr (G.wb _ _ hO) L;refine bK h H (by rw[e];exact RI A C D E g _) ⟨⟨_,rfl,rfl⟩,R,m,ah,λ_=>⟨g,q,M,?_⟩⟩;rw[B4];simp[ef]
    .cases c
   .cases c
 .cases r
def Uo(i:fN P cx){e:TypeId}{k o u y v val}(j:find cx.T e=aa u)(l:cI γ σ.mem w (.data u y) .val [val])(m:vS (.data u y) k=aa (o,v)) :
  ∃z,(Instr.field e val k).run P w=.ok z w/\cI γ σ.mem w v .val [z]:=by
 obtain⟨cs,n,rfl⟩:=eg.1 l;obtain⟨p,D,rfl,g,q,r,s⟩:=EI n m;obtain⟨t,f,x,A,h,C,E⟩:=EJ (i.T _ _ j) g q;have b:u.isAgg=true:=by cases u<;>first|rfl|(cases k<;>cases g)
 refine⟨cY p _,?_,_,s,rfl⟩;have c:t[k]?=aa f:=by simpa using A
 simp only[cY,b,xj,Instr.field,Sem.run_bind,run_underlying x,Result.andThen_ok,c,asAgg,Sem.run_pure,(C8 C (cs:=cs.toArray) (off:=f.offset) (by rw[h];simpa using r) vl)];rw[h]
def oa{t b h}(j:P.underlying t=aa (.slice b))(l:(Go.sizeOf b).run P w=.ok h w)(c e f g:Nat) k {i:Int} (m:0<=i) (n:i<f) :
  (Instr.indexAt t (.slice (aa ⟨c,e,af⟩) f g)<|.int k i).run P w=.ok (.pointer<|some ⟨c,e+i.toNat*h,af⟩) w:=by
 simp only[Instr.indexAt,asIntOf,Sem.run_bind,Sem.run_pure,Result.andThen_ok,run_underlying j,T7,m,n,yq,l,addr_add]
def Bn{t b c n}(e:P.underlying t=aa (.array n b))(f:(Go.sizeOf b).run P w=.ok c w) blk off k {i:Int} (g:0<=i) (h:i<n) :
  (Instr.indexAt t (.pointer<|some ⟨blk,off,af⟩)<|.int k i).run P w=.ok (.pointer<|some ⟨blk,off+i.toNat*c,af⟩) w:=by
 simp only[Instr.indexAt,asIntOf,Sem.run_bind,Sem.run_pure,Result.andThen_ok,run_underlying e,Instr.sureAddr,T7,g,h,yq,f,addr_add]
def B6{i n}(h:within i n=true):0<=i/\i<n:=by
 simp only[within,gw,Ap] at h;exact h
def jQ{i j n}(h:inside i j n=true):0<=i/\i<=j/\j<=n:=by
 simp only[inside,gw,Ap] at h;exact⟨h.1.1,h.1.2,h.2⟩
def FU{b aP e n}(h:Au σ b aP=aa (e,n)):∃(i:Box) (k:Nat),σ.mem b=aa i/\i.aP=aP/\i.row=aa (e,k)/\n=k:=by
 unfold Au at h;split at h
 .rename_i i j;cases c:Nat.beq i.aP aP with
  | false=>rw[c] at h;cases h
  | true =>
    rw[c] at h;split at h
    .rename_i m l f g;obtain⟨rfl,rfl⟩:=eN (aI h);exact⟨i,_,j,gx c,by rw[Box.row,f,g],rfl⟩
    .rename_i o m l f g;obtain⟨rfl,rfl⟩:=eN (aI h);exact⟨i,_,j,gx c,by rw[Box.row,f,g],rfl⟩
    .cases h
 .cases h
def Box.dT{bx:Box}{e:Ty}{l:List e.den}(b:bx.buf=true)(c:bx.val=.data (.slice e) l):bx.row=aa (e,l.length):=by rw[Box.row,b,c]
def Box.sn{b:Box}{e n l}(c:b.buf=false)(f:b.val=.data (.arr n e) l):b.row=aa (e,n):=by rw[Box.row,c,f]
def AB(c:fN P cx){t e:Nat}(h:PX cx t=aa e):P.underlying t=aa (.slice e)/\dc cx.vf e=true:=by
 unfold PX at h;split at h
 .cases h
 .split at h
  .rename_i u f;cases b:dc cx.vf u with
   | false=>rw[b] at h;cases h
   | true =>
     rw[b] at h;obtain rfl:=aI h;exact⟨c.els _ _ f,b⟩
  .cases h
def Xa{b aP i}:∀{m k},(Lt d b aP σ i m k).run=aa aV->∃j,k<=j/\j<k+m/\i=j/\aV=σ.bu d (.ptr b aP [.gz j j]):=by
 intro m;induction m with
 | zero=>intro k c;cases c
 | succ m f =>
   intro k c;have e:=gD c;cases hi:aG i k with
   | true =>
     rw[hi] at e;obtain rfl:=aI e;exact⟨k,bV _,ah,by simpa [aG] using hi,rfl⟩
   | false =>
     grind
def I5{q}(h:KC q=true):ef q=0:=by
 unfold KC at h;split at h
 .simp[ef,gx h]
 .cases h
def vU(R:fN P cx){ty x S i}(h:dy B N γ σ a w)(Y:∀k,d=aa k->k<N)(A:(eH cx d ty (cW σ x) i σ).run=aa aV) :
  oT P B N γ σ a w d (Instr.indexAt ty (a.eval x)<|.int S i) aV:=by
 have hv:=h.cW x;unfold eH at A;split at A
 .rename_i u e l K F;rw[F] at hv;obtain⟨C,o⟩:=ay A;obtain rfl:=Ty.eq_of_beq C;obtain⟨y,hy,z⟩:=cg o;obtain rfl:=aI z;obtain⟨L,G⟩:=vj hy;obtain⟨M,H,I,k3,k4⟩:=(R.T _ _ K).slice;obtain⟨cs,E,t⟩:=eg.1 hv;have hi:=(iy.1 G).1;rcases E with ⟨_,E⟩|⟨f,J,r,E,h2,h3,h4⟩
  .grind
  .rw[E] at t;have U:a.eval x=.slice _ _ r:=t;obtain⟨es,g1,V,O⟩:=h4 _ y G;refine bK h Y (by rw[U];exact oa H (I.sizeOf w) f J _ r S L ah) ⟨f,J+i.toNat*u.size,es,rfl,O,λj v W=>?_⟩
   grind
 .rename_i m u n e l K F;rw[F] at hv;obtain⟨C,o⟩:=ay A;simp only[gw] at C;obtain rfl:=Ty.eq_of_beq C.1;obtain rfl:=gx C.2;obtain⟨y,hy,z⟩:=cg o;obtain rfl:=aI z;obtain⟨L,G⟩:=vj hy;obtain⟨M,H,I,k3⟩:=(R.T _ _ K).arr;obtain⟨f,J,cs,E,h2,h3⟩:=hv;obtain E:a.eval x=_:=by simpa using E
  have hi:i.toNat<m:=by have:=(iy.1 G).1;have:=h2.1;omega
  refine bK h Y (by rw[E];exact Bn H (I.sizeOf w) f J S L ah) ⟨f,J+i.toNat*u.size,_,rfl,(h2.2.2 _ y G),λj v W=>?_⟩;rw[jM] at W;split at W
  .rw[va] at W;have:=h3 _ v W
   grind
  .cases W
 .rename_i u b X K F;rw[F] at hv;split at A
  .rename_i e n he;obtain⟨C,o⟩:=ay A;obtain rfl:=Ty.eq_of_beq C;obtain⟨hw,z⟩:=cP o;obtain rfl:=aI z;obtain⟨L,E⟩:=B6 hw;obtain⟨Q,k,g,s,D,rfl⟩:=FU he;obtain⟨M,H,I,k3,k4⟩:=(R.T _ _ K).slice;obtain⟨e',n',g1,V,O⟩:=bk g s hv.2;rw[D] at V;obtain⟨rfl,rfl⟩:=eN (aI V);rcases O with ⟨O,Z⟩|⟨f,r,O,Z⟩
   .exfalso;have hat:=h.ok.boxes b Q g;rw[eB,g1] at hat;obtain⟨e2,l,j1,j2,j3⟩:=hat;rcases j3 with ⟨_,j4⟩|⟨_,_,_,_,_,j3,_⟩
    .rw[Box.dT g1 j1] at D
     grind
    .grind
   .obtain Z:a.eval x=_:=by simpa using Z
    refine bK h Y (by rw[Z];exact oa H (I.sizeOf w) f 0 _ r S L E) ⟨⟨_,rfl,rfl⟩,Q,g,ah,λ_=>⟨f,r,O,by simp[ef]⟩⟩
  .cases A
 .rename_i u b X lo n K F;rw[F] at hv;split at A
  .rename_i e n2 he;obtain⟨C,o⟩:=ay A;obtain rfl:=Ty.eq_of_beq C;obtain⟨hw,z⟩:=cP o;obtain rfl:=aI z;obtain⟨L,E⟩:=B6 hw;obtain⟨Q,k,g,s,D,rfl⟩:=FU he;obtain⟨M,H,I,k3,k4⟩:=(R.T _ _ K).slice;obtain⟨e',n',V,O,Z,g5,base,r,g6,g7,g8,gF,g9⟩:=bk g s hv.2;rw[D] at V;obtain⟨rfl,rfl⟩:=eN (aI V);rcases g9 with g9|⟨f,c,g9,g10⟩
   .omega
   .obtain g6:a.eval x=_:=by simpa using g6
    refine bK h Y (by rw[g6,g10];exact oa H (I.sizeOf w) f _ _ r S L ah) ⟨⟨_,rfl,rfl⟩,Q,g,ah,λ_=>⟨f,c,g9,?_⟩⟩;have:(plus lo i).toNat=lo.toNat+i.toNat:=by simp only[plus];omega
    simp only[ef,this,iE,FC]
  .cases A
 .rename_i m u b X p K F;rw[F] at hv;obtain⟨C,o⟩:=ay A;obtain⟨Q,g,s⟩:=kR C;obtain⟨hw,z⟩:=cP o;obtain rfl:=aI z;obtain⟨L,E⟩:=B6 hw;obtain⟨M,H,I,k3⟩:=(R.T _ _ K).arr;obtain⟨f,r,hl,t⟩:=bk g s hv.2;obtain t:a.eval x=_:=by simpa using t
  refine bK h Y (by rw[t];exact Bn H (I.sizeOf w) f _ S L E) ⟨⟨_,rfl,rfl⟩,Q,g,ah,λ_=>⟨f,r,hl,?_⟩⟩;rw[B4];simp[ef]
 .rename_i b X q e0 k0 lo n K F;rw[F] at hv;split at A
  .rename_i e he;obtain⟨C,o⟩:=ay A;simp at C;obtain⟨⟨hq,rfl⟩,hl⟩:=C;obtain⟨Q,g,s⟩:=kR hl;obtain⟨H,I⟩:=AB R he;obtain⟨j,_,W,rfl,rfl⟩:=Xa o;obtain⟨_,f,c,g1,V,O,Z,base,r,g5,g6,g7⟩:=bk g s hv.2;obtain g5:a.eval x=_:=by simpa using g5
   rcases g7 with g7|g7
   .grind
   .rw[I5 hq] at g7;have hj':(j:Int)<n.toNat:=ah;refine bK h Y (by rw[g5,g7];exact oa H ((R.vf _ I).2.1 w) f _ _ r S ah hj') ⟨⟨_,rfl,rfl⟩,Q,g,ah,λ_=>⟨f,c,g1,?_⟩⟩;simp[ef]
  .cases A
 .cases A
def JS(r:fN P cx){ty x s i}(h:dy B N γ σ a w)(z:∀k,d=aa k->k<N)(p:(mW cx d ty (cW σ x) i σ).run=aa aV) :
  oT P B N γ σ a w d (Instr.indexAt ty (a.eval x)<|.int s i) aV:=by
 have hv:=h.cW x;unfold mW at p;split at p
 .rename_i b E q O Q R n e F G;rw[F] at hv;obtain⟨A,f⟩:=ay p;simp at A;obtain⟨⟨H,rfl⟩,I⟩:=A;obtain⟨J,g,l⟩:=kR I;obtain⟨K,L⟩:=AB r G;split at f
  .rename_i j;obtain⟨C,t⟩:=ay f;obtain rfl:=aI t;have C:=fb C;obtain⟨_,m,c,M,S,T,U,D,u,v,V,o⟩:=bk g l hv.2;obtain v:a.eval x=_:=by simpa using v
   rcases o with o|o
   .grind
   .rw[I5 H] at o;have y:(j:Int)<n.toNat:=ah;show oT P B N γ σ a w d (Instr.indexAt ty _<|.int s j) _
    refine bK h z (by rw[v,o];exact oa K ((r.vf _ L).2.1 w) m _ _ u s ah y) ⟨⟨_,rfl,rfl⟩,J,g,ah,λ_=>⟨m,c,M,?_⟩⟩;simp[ef]
  .cases f
 .exact vU r h z p
def u8_in b:IntKind.u8.min<=u8 b/\u8 b<=IntKind.u8.max:=by
 have:=b.toNat_lt;have c:IntKind.u8.min=0:=aD;have e:IntKind.u8.max=255:=aD;simp only[u8];omega
def JT(C:fN P cx){ty x G i}(h:dy B N γ σ a w)(D:∀k,d=aa k->k<N)(j:(mX cx d ty (cW σ x) i σ).run=aa aV) :
  oT P B N γ σ a w d (Instr.index ty (a.eval x)<|.int G i) aV:=by
 have hv:=h.cW x;unfold mX at j;split at j
 .rename_i s o p;rw[p] at hv;obtain⟨b,q,g⟩:=cg j;obtain rfl:=aI g;obtain⟨r,f⟩:=vj q;obtain⟨c,Q⟩:=y9 hv;refine bK h D ?_ (mkInt<|u8_in b);rw[c];have H:(⟨List.toArray s⟩:ByteArray)[i.toNat]?=aa b:=by
   have:=(iy.1 f);obtain⟨I,J⟩:=this;rw[getElem?_pos _ i.toNat I];exact congrArg aa J
  simp only[Instr.index,asIntOf,Sem.run_bind,Sem.run_pure,Result.andThen_ok,run_underlying ((C.T _ _ o).str),r,H];rfl
 .rename_i m u n e l o p;rw[p] at hv;obtain⟨t,v⟩:=ay j;simp only[gw] at t;obtain rfl:=Ty.eq_of_beq t.1;obtain rfl:=gx t.2;obtain⟨y,q,g⟩:=cg v;obtain rfl:=aI g;obtain⟨r,f⟩:=vj q;obtain⟨K,L,E,R⟩:=(C.T _ _ o).arr;obtain⟨F,z,c⟩:=eg.1 hv;have hi:i.toNat<m:=by have:=(iy.1 f).1;have:=z.1;omega
  have M:_*u.size<=m*u.size:=gW _ hi;rw[JO] at M;have O:=z.2.1;refine bK h D ?_ ⟨_,(z.2.2 _ y f),rfl⟩;have A:i<m:=ah;rw[c];show(Instr.index ty (.agg F.toArray) _).run P w=_
  simp only[Instr.index,asIntOf,Sem.run_bind,Sem.run_pure,Result.andThen_ok,run_underlying L,r,A,T7,yq,E.sizeOf w,(C8 E (cs:=F.toArray) (off:=i.toNat*u.size) cT vl)]
 .cases j
def sb0 isSlice len cap:(Instr.sliceBounds isSlice len cap af af af).run P w=.ok (0,len,cap) w:=by simp[Instr.sliceBounds]
def sbh isSlice (len cap:Nat) k {y:Int} (b:0<=y) (c:y<=cap):(Instr.sliceBounds isSlice len cap af (aa<|.int k y) af).run P w=.ok (0,y.toNat,cap) w:=by
 have e:0<=y/\y<=cap:=⟨b,c⟩;simp only[Instr.sliceBounds,Instr.sliceBound,asIntOf,Sem.run_bind,Sem.run_pure,Result.andThen_ok,e,T7,yq]
def sbl isSlice (len cap:Nat) k {y:Int} (b:0<=y) (c:y<=len):(Instr.sliceBounds isSlice len cap (aa<|.int k y) af af).run P w=.ok (y.toNat,len,cap) w:=by
 have e:0<=y/\y<=len:=⟨b,c⟩;simp only[Instr.sliceBounds,Instr.sliceBound,asIntOf,Sem.run_bind,Sem.run_pure,Result.andThen_ok,e,T7,yq]
def aly isSlice (len cap:Nat) k c {y b:Int} (e:0<=y) (g:y<=b) (f:b<=cap):(Instr.sliceBounds isSlice len cap (aa<|.int k y) (aa<|.int c b) af).run P w=.ok (y.toNat,b.toNat,cap) w:=by
 have h:0<=b/\b<=cap:=⟨ah,f⟩;have i:0<=y/\y<=b.toNat:=⟨e,ah⟩;simp only[Instr.sliceBounds,Instr.sliceBound,asIntOf];simp_all
def rk{lo hi n i j}(h:dy B N γ σ a w)(b:bounds σ n lo hi=aa (i,j)) isSlice (len cap:Nat) (x:n=len) (s:len<=cap) (p:0<=i) (q:i<=j) (z:j<=n) :
  (Instr.sliceBounds isSlice len cap (lo.map a.eval) (hi.map a.eval) af).run P w=.ok (i.toNat,j.toNat,cap) w:=by
 have c:∀o k m,cW σ o=.data (.int k) m->a.eval o=.int k m:=λo k m e=>by
  have:=h.cW o;rw[e] at this;exact(vI this).1
 unfold bounds at b;cases lo with
 | none =>
   cases hi with
   | none =>
     have:=sb0 (P:=P) (w:=w) isSlice len cap
     grind
   | some o =>
     simp only at b;split at b
     .rename_i k y f;obtain⟨rfl,g⟩:=eN (aI b);have e:=c o k _ f;rw[show y=j from g] at e;simp only[PU,e];exact sbh isSlice len cap k q ah
     .cases b
 | some o =>
   cases hi with
   | none =>
     simp only at b;split at b
     .rename_i k y f;have:=sbl (P:=P) (w:=w) isSlice len cap k p ah
      grind
     .cases b
   | some o2 =>
     simp only at b;split at b
     .rename_i k y r t f l;obtain⟨u,v⟩:=eN (aI b);have e:=c o k _ f;have g:=c o2 r _ l;rw[show y=i from u] at e;rw[show t=j from v] at g;simp only[PU,e,g];exact aly isSlice len cap k r p q ah
     .cases b
def adL s {i j} (b:0<=i) (c:i<=j):(⟨s.toArray⟩:ByteArray).extract i.toNat j.toNat=⟨(sub s i<|minus j i).toArray⟩:=by
 have:(minus j i).toNat=j.toNat-i.toNat:=by simp only[minus];omega
 apply ByteArray.ext;simp[sub,this]
def Xb{α}(s:List α) i n:(sub s i n).length<=s.length:=by
 simp only[sub,dk,rj];omega
def adM{I e}{l:List e.den}{blk off cap i j}(h:∀k x,l[k]?=aa x->∃b,b.length=e.size /\
   (∀q v,b[q]?=aa v->w.cell? ⟨blk,off+k*e.size+q,af⟩=aa v/\I blk (off+k*e.size+q))/\bJ w I e x b) (m:i<=j) (n:j<=l.length) (o:l.length<=cap) (p:cap<=maxLen) base
  (f:base=aa ⟨blk,off+i*e.size,af⟩\/(i=cap/\base=aa ⟨blk,off,af⟩)) :
  bJ w I (.slice e) ((l.drop i).take<|j-i) [.slice base (j-i)<|cap-i]:=by
 rcases f with rfl|⟨rfl,rfl⟩
 .refine .inr ⟨blk,off+i*e.size,cap-i,?_,?_,ah,λk x g=>?_⟩
  .grind
  .grind
  .grind
 .have c:j=i:=ah;subst c;refine .inr ⟨blk,off,0,aT,aT,ah,λk x g=>?_⟩
  grind
def sub_eq{α}(l:List α){i j}(b:0<=i)(c:i<=j):sub l i (minus j i)=(l.drop i.toNat).take (j.toNat-i.toNat):=by
 have:(minus j i).toNat=j.toNat-i.toNat:=by simp only[minus];omega
 rw[sub,this]
def sub_zero{α}(l:List α):sub l 0 (minus 0 0)=[]:=by simp[sub,minus]
def aaL{I e l blk off cap i j}(c:∀k x,l[k]?=aa x->∃b,b.length=e.size /\
   (∀q v,b[q]?=aa v->w.cell? ⟨blk,off+k*e.size+q,af⟩=aa v/\I blk (off+k*e.size+q))/\bJ w I e x b) (f:0<=i) (g:i<=j) (o:j<=l.length) (h:l.length<=cap) (m:cap<=maxLen) base
  (n:base=aa ⟨blk,off+i.toNat*e.size,af⟩\/(i.toNat=cap/\base=aa ⟨blk,off,af⟩)) :
  bJ w I (.slice e) (sub l i<|minus j i) [.slice base (j.toNat-i.toNat)<|cap-i.toNat]:=by
 rw[sub_eq l f g];exact adM c ah ah h m base n
def xr.sub{base cap}(h:xr base cap) i s:xr (if cap=i then base else base.map (·.add s)) (cap-i):=by
 rcases h with rfl|⟨b,c,rfl⟩
 .exact .inl ah
 .refine .inr ?_;split
  .grind
  .exact⟨b,c+s,by rw[PU,addr_add]⟩
def FN.sub{f b lo i base cap}(h:FN γ f b lo base cap)(j:0<=lo)(n:0<=i) s :
  FN γ f b (plus lo i) (if cap=i.toNat then base else base.map (·.add (i.toNat*s))) (cap-i.toNat):=by
 intro e k;have l:lo=0:=by simp only[plus] at e;omega
 have m:i=0:=by simp only[plus] at e;omega
 subst l;subst m;rcases h rfl k with ⟨g,rfl,rfl⟩|⟨c,g,rfl⟩
 .grind
 .refine .inr ⟨c,by simpa using g,?_⟩;split
  .rfl
  .simp[Addr.add]
def JU(hc:fN P cx){ty:TypeId}{x:Operand}{lo hi:Option Operand}(h:dy B N γ σ a w)(hd:∀k,d=aa k->k<N)(F:(mV cx d ty (cW σ x) lo hi σ).run=aa aV) :
  oT P B N γ σ a w d (Instr.sliceAt ty (a.eval x) (lo.map a.eval) (hi.map a.eval) af) aV:=by
 have hv:=h.cW x;unfold mV at F;split at F
 ·
  rename_i s O Q;rw[Q] at hv;split at F
  .rename_i i j G;obtain⟨A,r⟩:=cP F;obtain rfl:=aI r;obtain⟨D,J,E⟩:=jQ A;obtain⟨p,hl⟩:=y9 hv;have hu:=(hc.T _ _ O).str;have y:=rk (P:=P) h G false (List.length (α:=UInt8) s) (List.length (α:=UInt8) s) rfl (bV _) D J E;refine bK h hd (x:=.string ⟨(sub (α:=UInt8) s i<|minus j i).toArray⟩) ?_ (mkStr<|fi (Xb (α:=UInt8) s _ _) hl);rw[p];have WS:(⟨List.toArray (α:=UInt8) s⟩:ByteArray).size=List.length (α:=UInt8) s:=rfl;simp only[Instr.sliceAt,Instr.slice,Sem.run_bind,run_underlying hu,Result.andThen_ok,WS,Option.isSome_none,Bool.false_eq_true,if_false];rw[y];simp only[Result.andThen_ok,Sem.run_pure];rw[adL (show bb from s) D J]
  .cases F
 ·
  rename_i u e l O Q;rw[Q] at hv;obtain⟨t,o⟩:=ay F;obtain rfl:=Ty.eq_of_beq t;split at o
  .rename_i i j G;obtain⟨A,r⟩:=cP o;obtain rfl:=aI r;obtain⟨D,J,E⟩:=jQ A;obtain⟨Z,U,V,k3,k4⟩:=(hc.T _ _ O).slice;obtain⟨cs,alz,p⟩:=eg.1 hv;have H:len (α:=u.den) l=(List.length (α:=u.den) l:Int):=rfl;rcases alz with ⟨⟨K,e1⟩,e2⟩|⟨b,R,f,e1,e2,e3,e4⟩
   .have L:a.eval x=.slice K 0 0:=by rw[p,e1];rfl
    have M:List.length (α:=u.den) l=0:=by rw[show l=([]:List u.den) from e2];rfl
    rw[H,M] at E;have hi0:i=0:=ah;have hj0:j=0:=ah;subst hi0;subst hj0;have y:=rk (P:=P) h G true 0 0 (by rw[H,M]) (bV _) D J (by rw[H,M];exact E);refine bK h hd (x:=.slice K 0 0) ?_ ⟨_,.inl ⟨⟨K,rfl⟩,?_⟩,rfl⟩
    .rw[L];simp only[Instr.sliceAt,Instr.slice,Sem.run_bind,run_underlying U,Result.andThen_ok,y,V.sizeOf w,Sem.run_pure];rfl
    .exact sub_zero (α:=u.den) l
   .have L:a.eval x=.slice (aa ⟨b,R,af⟩) (List.length (α:=u.den) l) f:=by rw[p,e1];rfl
    have y:=rk (P:=P) h G true (List.length (α:=u.den) l) f H e2 D J E;have hj:j.toNat<=List.length (α:=u.den) l:=by rw[H] at E;omega
    have akb:=aaL (w:=w) (i:=i) (j:=j) e4 D J (by rw[H] at E;exact E) e2 e3;refine bK h hd (x:=.slice (if f=i.toNat then aa ⟨b,R,af⟩ else aa ⟨b,R+i.toNat*u.size,af⟩) (j.toNat-i.toNat) (f-i.toNat)) ?_
     ⟨_,akb (if f=i.toNat then aa ⟨b,R,af⟩ else aa ⟨b,R+i.toNat*u.size,af⟩) (by
      split
      .rename_i v;exact .inr ⟨v.symm,rfl⟩
      .exact .inl rfl),rfl⟩
    rw[L];simp only[Instr.sliceAt,Instr.slice,Sem.run_bind,run_underlying U,Result.andThen_ok,y,V.sizeOf w,Sem.run_pure,PU,addr_add]
  .cases o
 ·
  rename_i u c aP lo' n O Q;rw[Q] at hv;split at F
  .rename_i W z;obtain⟨t,o⟩:=ay F;simp only[gw] at t;have C:=gx t.1;split at o
   .rename_i i j G;obtain⟨A,r⟩:=cP o;obtain rfl:=aI r;obtain⟨D,J,E⟩:=jQ A;obtain⟨Z,U,V,k3,k4⟩:=(hc.T _ _ O).slice;obtain⟨e',k,g2,X,g4,g5,g,f,g6,g7,g8,gF,g9⟩:=bk z C hv.2;have hue:u=e':=by
     have:=t.2;rw[g2] at this;exact Ty.eq_of_beq this
    subst hue;obtain g6:a.eval x=_:=by simpa using g6
    have y:=rk (P:=P) h G true n.toNat f ah g7 D J E;refine bK h hd (x:=.slice (if f=i.toNat then g else g.map (·.add (i.toNat*u.size))) (j.toNat-i.toNat) (f-i.toNat)) ?_
     ⟨⟨_,rfl,rfl⟩,W,z,ah,λ_=>⟨u,k,g2,by simp only[plus];omega,by simp only[minus];omega,by simp only[plus,minus];omega,(if f=i.toNat then g else g.map (·.add (i.toNat*u.size))),f-i.toNat,?_,?_,?_,⟨gF.1.sub _ _,gF.2.sub X D _⟩,?_⟩⟩
    .rw[g6];simp only[Instr.sliceAt,Instr.slice,Sem.run_bind,run_underlying U,Result.andThen_ok,y,V.sizeOf w,Sem.run_pure]
    .have:(minus j i).toNat=j.toNat-i.toNat:=by simp only[minus];omega
     rw[this]
    .simp only[minus];omega
    .omega
    .rcases g9 with g9|⟨b,c',g9,g10⟩
     .exact .inl (by simp only[minus];omega)
     .by_cases v:f=i.toNat
      .exact .inl (by simp only[minus];omega)
      .refine .inr ⟨b,c',g9,?_⟩;rw[aK v,g10];have:(plus lo' i).toNat=lo'.toNat+i.toNat:=by simp only[plus];omega
       simp only[PU,addr_add,this,iE]
   .cases o
  .cases F
 ·
  rename_i u c aP O Q;rw[Q] at hv;split at F
  .rename_i W z;obtain⟨t,o⟩:=ay F;simp only[gw] at t;have C:=gx t.1;split at o
   .rename_i e l hbv;obtain⟨hue,r⟩:=ay o;obtain rfl:=Ty.eq_of_beq hue;obtain⟨Z,U,V,k3,k4⟩:=(hc.T _ _ O).slice;obtain⟨e',n',g1,g2,X⟩:=bk z C hv.2;have adN:W.row=aa (u,List.length (α:=u.den) l):=Box.dT t.2 hbv;rw[adN] at g2;obtain⟨rfl,rfl⟩:=eN (aI g2);have hat:=h.ok.boxes c W z;rw[eB,g1] at hat;obtain⟨e2,l2,j1,j2,j3⟩:=hat;have akc:∃g f,a.eval x=.slice g (List.length (α:=u.den) l) f/\List.length (α:=u.den) l<=f/\f<=maxLen/\(((f=0/\List.length (α:=u.den) l=0)/\γ.loc c=af/\g=af)\/∃b,γ.loc c=aa (b,f)/\g=aa ⟨b,0,af⟩):=by
     rw[hbv] at j1;cases j1;rcases X with ⟨X,g4⟩|⟨b,f,X,g4⟩
     .obtain g4:a.eval x=_:=by simpa using g4
      rcases j3 with ⟨_,j4⟩|⟨_,_,_,_,_,j3,_⟩
      .have M:List.length (α:=u.den) l=0:=by rw[j4];rfl
       exact⟨af,0,by rw[g4,M],ah,pW _,.inl ⟨⟨rfl,M⟩,X,rfl⟩⟩
      .rw[X] at j3;cases j3
     .obtain g4:a.eval x=_:=by simpa using g4
      rcases j3 with ⟨j3,_⟩|⟨LN,adO,cur,tid,fr,q1,Y,q3,adP,q4,q5,q6,q7⟩
      .rw[X] at j3;cases j3
      .rw[X] at q1;obtain⟨rfl,rfl⟩:=eN (aI q1);exact⟨_,f,g4,q4,q5,.inr ⟨b,X,rfl⟩⟩
    obtain⟨g,f,m1,m2,m3,m4⟩:=akc;have hF:xr g f:=by
     rcases m4 with ⟨⟨Y,_⟩,_⟩|⟨b,q1,Y⟩
     .exact .inl Y
     .exact .inr ⟨b,0,Y⟩
    have hZ:FN γ W c 0 g f:=λ_ _=>by
     rcases m4 with ⟨⟨Y,_⟩,q3,q4⟩|⟨b,q1,Y⟩
     .exact .inl ⟨q3,q4,Y⟩
     .exact .inr ⟨b,q1,Y⟩
    have I:∀{i j:Int},bounds σ (len (α:=u.den) l) lo hi=aa (i,j)->0<=i->i<=j->j<=len (α:=u.den) l ->
      (Instr.sliceAt ty (a.eval x) (lo.map a.eval) (hi.map a.eval) af).run P w=.ok (.slice (if f=i.toNat then g else g.map (·.add (i.toNat*u.size))) (j.toNat-i.toNat)<|f-i.toNat) w:=by
     intro i j G D J E;have y:=rk (P:=P) h G true (List.length (α:=u.den) l) f rfl m2 D J E;rw[m1];simp only[Instr.sliceAt,Instr.slice,Sem.run_bind,run_underlying U,Result.andThen_ok,y,V.sizeOf w,Sem.run_pure]
    split at r
    .obtain rfl:=aI r;have:=I (i:=0) (j:=len (α:=u.den) l) rfl ah (by simp only[len];omega) ah;have hjl:(len (α:=u.den) l).toNat=List.length (α:=u.den) l:=by simp[len]
     rw[hjl] at this;refine bK h hd (x:=a.eval x) ?_ hv;rw[this,m1]
     congr 1
     have:(g.map (·.add ((0:Int).toNat*u.size)))=g:=by cases g<;>simp[Addr.add]
     rw[this];simp
    .split at r
     .rename_i i j G;obtain⟨A,S⟩:=cP r;obtain rfl:=aI S;obtain⟨D,J,E⟩:=jQ A;have H:len (α:=u.den) l=(List.length (α:=u.den) l:Int):=rfl;rw[H] at E;refine bK h hd (I G D J E)
       ⟨⟨_,rfl,rfl⟩,W,z,ah,λ_=>⟨u,_,adN,D,by simp only[minus];omega,by simp only[minus];omega,(if f=i.toNat then g else g.map (·.add (i.toNat*u.size))),f-i.toNat,?_,?_,?_,⟨hF.sub _ _,by have:=hZ.sub (tr 0) D u.size;rwa [show plus 0 i=i by simp[plus]] at this⟩,?_⟩⟩
      .have:(minus j i).toNat=j.toNat-i.toNat:=by simp only[minus];omega
       rw[this]
      .simp only[minus];omega
      .omega
      .by_cases v:f=i.toNat
       .exact .inl (by simp only[minus];omega)
       .rcases m4 with ⟨q1,q3⟩|⟨b,q1,Y⟩
        .exact .inl ah
        .refine .inr ⟨b,f,q1,?_⟩;rw[aK v,Y];simp only[PU,addr_add,BV]
     .cases r
   .cases o
  .cases F
 ·
  rename_i m u c aP s q O Q;rw[Q] at hv;obtain⟨hlm,o⟩:=ay F;simp at hlm;obtain⟨W,z,C⟩:=kR hlm.1;split at o
  .rename_i i j G;obtain⟨A,S⟩:=cP o;obtain rfl:=aI S;obtain⟨D,J,E⟩:=jQ A;obtain⟨Z,U,V,k3⟩:=(hc.T _ _ O).arr;obtain⟨b,f,hl,p⟩:=bk z C hv.2;obtain p:a.eval x=.pointer (aa ⟨b,ef _,af⟩):=by simpa using p
   have y:=rk (P:=P) h G false m m rfl (bV _) D J E;refine bK h hd (x:=.slice (aa<|if m=i.toNat then⟨b,ef (s::q),af⟩ else(⟨b,ef (s::q),af⟩:Addr).add (i.toNat*u.size)) (j.toNat-i.toNat) (m-i.toNat)) ?_
    ⟨⟨_,rfl,rfl⟩,W,z,ah,λ_=>⟨aT,b,f,hl,D,by simp only[minus];omega,by simp only[minus];omega,aa (if m=i.toNat then⟨b,ef (s::q),af⟩ else(⟨b,ef (s::q),af⟩:Addr).add (i.toNat*u.size)),m-i.toNat,?_,?_,?_⟩⟩
   .rw[p];simp only[Instr.sliceAt,Sem.run_bind,run_underlying U,Result.andThen_ok,Instr.sureAddr,Sem.run_pure,y,V.sizeOf w]
   .have:(minus j i).toNat=j.toNat-i.toNat:=by simp only[minus];omega
    rw[this]
   .simp only[minus];omega
   .by_cases v:m=i.toNat
    .exact .inl (by simp only[minus];omega)
    .refine .inr ?_;rw[aK v];simp only[addr_add]
  .cases o
 ·
  rename_i m u c aP O Q;rw[Q] at hv;split at F
  .rename_i W z;obtain⟨t,o⟩:=ay F;simp only[gw,DT] at t;have C:=gx t.1;split at o
   .rename_i n e l hbv;obtain⟨hq,r⟩:=ay o;simp only[gw] at hq;obtain rfl:=gx hq.1.1;obtain rfl:=Ty.eq_of_beq hq.1.2;have an6:=JL hq.2;split at r
    .rename_i i j G;obtain⟨A,S⟩:=cP r;obtain rfl:=aI S;obtain⟨D,J,E⟩:=jQ A;obtain⟨Z,U,V,k3⟩:=(hc.T _ _ O).arr;obtain⟨b,f,hl,p⟩:=bk z C hv.2;obtain p:a.eval x=.pointer _:=by simpa [ef] using p
     have y:=rk (P:=P) h G false m m rfl (bV _) D J E;have hF:xr (aa<|if m=i.toNat then⟨b,0,af⟩ else(⟨b,0,af⟩:Addr).add (i.toNat*u.size)) (m-i.toNat):=by
      refine .inr ?_;split
      .exact⟨b,0,rfl⟩
      .exact⟨b,0+i.toNat*u.size,by rw[addr_add]⟩
     refine bK h hd (x:=.slice (aa<|if m=i.toNat then⟨b,0,af⟩ else(⟨b,0,af⟩:Addr).add (i.toNat*u.size)) (j.toNat-i.toNat) (m-i.toNat)) ?_
      ⟨⟨_,rfl,rfl⟩,W,z,ah,λ_=>⟨u,m,Box.sn t.2 hbv,D,by simp only[minus];omega,by simp only[minus];omega,aa (if m=i.toNat then⟨b,0,af⟩ else(⟨b,0,af⟩:Addr).add _),m-i.toNat,?_,?_,?_,⟨hF,λ_ G=>by rw[t.2] at G;cases G⟩,?_⟩⟩
     .rw[p];simp only[Instr.sliceAt,Sem.run_bind,run_underlying U,Result.andThen_ok,Instr.sureAddr,Sem.run_pure,y,V.sizeOf w]
     .have:(minus j i).toNat=j.toNat-i.toNat:=by simp only[minus];omega
      rw[this]
     .simp only[minus];omega
     .simp only[maxLen];omega
     .by_cases v:m=i.toNat
      .exact .inl (by simp only[minus];omega)
      .refine .inr ⟨b,f,hl,?_⟩;rw[aK v];simp only[addr_add,BV]
    .cases r
   .cases o
  .cases F
 .cases F
end
end Go.Ge
namespace Go.Ge
open RowKit
section
variable {P:Program} {B:B5} {N:Nat} {γ:Gh} {σ aV:St} {a:Act} {w:World} {d:Option Nat} {cx:Ctx}
def bJ.flat{w w' I I'}:∀{t x cs},t.flat=true->bJ w I t x cs->bJ w' I' t x cs:=by
 intro t;induction t with
 | int k=>intro x cs _ h;exact h
 | bool=>intro x cs _ h;exact h
 | str=>intro x cs _ h;exact h
 | slice e p=>intro x cs f;cases f
 | arr n e p=>intro x cs f h;exact⟨h.1,h.2.1,λi y q=>p f (h.2.2 i y q)⟩
 | pair a b g j =>
   intro x cs f h;simp only[Ty.flat,gw] at f;obtain⟨s,v,A,l,m⟩:=h;exact⟨s,v,A,g f.1 l,j f.2 m⟩
 | unit=>intro x cs _ h;exact h
 | alt u a r g o =>
   intro x cs f h;simp only[Ty.flat,gw] at f;rcases x with y|z
   .obtain⟨l,c,m,C⟩:=h;exact⟨l,c,m,g f.1 C⟩
   .exact o f.2 h
 | BX=>intro x cs _ h;exact h
def B7(w:World)(I:Nat->Nat->Prop)(e:Ty)(l:List e.den)(v:Value):Prop :=
 (l=[]/\∃f b,v=.slice f 0 b/\b<=maxLen/\xr f b) \/
 ∃g h b,v=.slice (aa ⟨g,h,af⟩) l.length b/\l.length<=b/\b<=maxLen /\
  ∀(i:Nat) (x:e.den),l[i]?=aa x->∃k:List Value,k.length=e.size /\
   (∀(j:Nat) c,k[j]?=aa c->w.cell? ⟨g,h+i*e.size+j,af⟩=aa c)/\bJ w I e x k
def AD{I e}{l:List e.den}{blk cur tid k}(m:w.heap[blk]?=aa (.cells cur tid k)){n}(o:n*e.size<=cur.size)
  (h:∀i x,l[i]?=aa x->bJ w I e x ((cur.toList.drop<|i*e.size).take e.size)) (p:l.length<=n) lo :
  ∀i x,(l.drop lo)[i]?=aa x->∃b,b.length=e.size /\
   (∀j c,b[j]?=aa c->w.cell? ⟨blk,lo*e.size+i*e.size+j,af⟩=aa c)/\bJ w I e x b:=by
 intro i x f;rw[va] at f;have g:=h _ x f;refine⟨_,g.length,λj c q=>?_,g⟩;rw[cell_of_heap m]
 grind
def eB.row{b bx mem}(h:eB γ mem w b bx){blk cap}(v:γ.loc b=aa (blk,cap)) :
  (∀(e:Ty) (l:List e.den),bx.buf=true->bx.val=.data (.slice e) l->∃c tid f,w.heap[blk]?=aa (.cells c tid f)/\nr c f/\l.length<=cap/\cap<=maxLen/\c.size=cap*e.size/\0<e.size /\
   ∀i x,l[i]?=aa x->bJ w γ.I e x ((c.toList.drop<|i*e.size).take e.size)) /\
  (∀n (e:Ty) (l:List e.den),bx.buf=false->bx.val=.data (.arr n e) l->∃c tid f,w.heap[blk]?=aa (.cells c tid f)/\nr c f/\l.length=n/\c.size=n*e.size /\
   ∀i x,l[i]?=aa x->bJ w γ.I e x ((c.toList.drop<|i*e.size).take e.size)):=by
 refine⟨λe l o p=>?_,λn e l o p=>?_⟩
 .rw[eB,o] at h;obtain⟨D,E,r,y,s⟩:=h;rw[p] at r;cases r;rcases s with ⟨s,_⟩|⟨g,j,c,tid,f,q,t,u,k,m,z,A,C⟩
  .grind
  .rw[v] at q;obtain⟨rfl,rfl⟩:=eN (aI q);exact⟨c,tid,f,t,u.th,m,z,A,y,C⟩
 .rw[eB,o] at h;obtain⟨g,j,c,tid,f,q,t,u,k,m⟩:=h;rw[p] at m;obtain⟨F,G,H⟩:=m
  grind
def FV{u e l m}(h:toL u e l=aa m):∃q:u=e,m=q▸l:=mv h
def oc{e v l}(g:jv e σ v=aa l) :
  v=.data (.slice e) l\/(v=.p7/\l=[])\/(∃b c f,v=.whole b c/\σ.mem b=aa f/\f.aP=c/\f.buf=true/\f.val=.data (.slice e) l) \/
  ∃b c o n f,v=.part b c o n/\σ.mem b=aa f/\f.aP=c/\((f.buf=true/\∃j:List e.den,f.val=.data (.slice e) j/\l=sub j o n)\/(f.buf=false/\∃(k:Nat) (j:List e.den),f.val=.data (.arr k e) j/\l=sub j o n)):=by
 unfold jv at g;split at g
 .obtain⟨q,rfl⟩:=FV g
  grind
 .exact .inr (.inl ⟨rfl,(aI g).symm⟩)
 .rename_i b c;split at g
  .rename_i f p;cases m:(Nat.beq f.aP c&&f.buf) with
   | false=>rw[m] at g;exact absurd g aT
   | true =>
     rw[m,xj] at g;simp only[gw] at m;split at g
     .rename_i u j h;obtain⟨q,rfl⟩:=FV g;subst q;exact .inr (.inr<|.inl ⟨b,c,f,rfl,p,gx m.1,m.2,h⟩)
     .grind
  .grind
 .rename_i b c o n;split at g
  .rename_i f p;cases m:Nat.beq f.aP c with
   | false=>rw[m] at g;exact absurd g aT
   | true =>
     rw[m] at g;split at g
     .rename_i u j i h;obtain⟨q,rfl⟩:=FV g;subst q;exact .inr (.inr<|.inr ⟨b,c,o,n,f,rfl,p,gx m,.inl ⟨i,j,h,rfl⟩⟩)
     .rename_i r u j i h;obtain⟨q,rfl⟩:=FV g;subst q;exact .inr (.inr<|.inr ⟨b,c,o,n,f,rfl,p,gx m,.inr ⟨i,r,j,h,rfl⟩⟩)
     .grind
  .grind
 .grind
def KK{α}{l:List α}{b n:Int}(c:0<=b)(e:0<=n)(f:b+n<=l.length):(sub l b n).length=n.toNat:=by
 simp only[sub,dk,rj];omega
def tP(M:bF B γ σ.mem w){e v val l}(O:cI γ σ.mem w v .val [val])(hl:jv e σ v=aa l):B7 w γ.I e l val:=by
 rcases oc hl with rfl|⟨rfl,rfl⟩|⟨b,R,E,rfl,s,p,f,g⟩|⟨b,R,z,n,E,rfl,s,p,S⟩
 .obtain⟨cs,F,r⟩:=eg.1 O;rcases F with ⟨⟨o,F⟩,T⟩|⟨j,U,h,F,T,h3,h4⟩
  .exact .inl ⟨T,o,0,by rw[r,F];rfl,pW _,.inl rfl⟩
  .refine .inr ⟨j,U,h,by rw[r,F];rfl,T,h3,λi x A=>?_⟩
   grind
 .obtain rfl:val=_:=by simpa [cI] using O
  exact .inl ⟨rfl,af,0,rfl,pW _,.inl rfl⟩
 .obtain⟨e',n',V,t,u⟩:=bk s p O.2;rw[Box.dT V g] at t;obtain⟨rfl,rfl⟩:=eN (aI t);rcases u with ⟨u,C⟩|⟨j,h,u,C⟩
  .obtain rfl:val=_:=by simpa using C
   have G:=M.boxes b E s;rw[eB,V] at G;obtain⟨e2,l2,W,j2,X⟩:=G;rw[g] at W;cases W;rcases X with ⟨_,j4⟩|⟨_,_,_,_,_,X,_⟩
   .exact .inl ⟨j4,af,0,rfl,pW _,.inl rfl⟩
   .grind
  .obtain rfl:val=_:=by simpa using C
   obtain⟨H,tid,Y,J,Z,D,q4,q5,q6,K⟩:=((M.boxes b E s).row u).1 _ l V g;refine .inr ⟨j,0,h,rfl,D,q4,λi x A=>?_⟩;have:=AD J ah K D 0 i x A
   grind
 .obtain⟨e',k,t,u,C,g5,o,h,g6,g7,Q,gF,q⟩:=bk s p O.2;obtain rfl:val=_:=by simpa using g6
  rcases S with ⟨f,L,g,rfl⟩|⟨f,k0,L,g,rfl⟩
  .rw[Box.dT f g] at t;obtain⟨rfl,rfl⟩:=eN (aI t);have hlen:=KK u C g5;rcases q with q|⟨j,c,q,y⟩
   .subst q;exact .inl ⟨by simp[sub],o,h,rfl,Q,gF.1⟩
   .obtain⟨H,tid,Y,J,Z,D,q4,q5,q6,K⟩:=((M.boxes b E s).row q).1 _ L f g;refine .inr ⟨j,z.toNat*e.size,h,by rw[y,hlen],by rw[hlen];exact g7,Q,λi x A=>?_⟩;have m:((List.drop z.toNat L).take n.toNat)[i]?=aa x:=A;rw[jM] at m;split at m
    .exact AD J ah K D z.toNat i x m
    .grind
  .rw[Box.sn f g] at t;obtain⟨rfl,rfl⟩:=eN (aI t);rcases q with q|⟨j,c,q,y⟩
   .subst q;exact .inl ⟨by simp[sub],o,h,rfl,Q,gF.1⟩
   .obtain⟨H,tid,Y,J,Z,D,q5,K⟩:=((M.boxes b E s).row q).2 _ _ L f g;have hlen:=KK u C (by rw[D];exact g5);refine .inr ⟨j,z.toNat*e.size,h,by rw[y,hlen],by rw[hlen];exact g7,Q,λi x A=>?_⟩;have m:((List.drop z.toNat L).take n.toNat)[i]?=aa x:=A;rw[jM] at m;split at m
    .exact AD J (n:=k0) ah K ah z.toNat i x m
    .grind
def EK{I e blk}:∀{l:List e.den} {off},(∀i x,l[i]?=aa x->∃f,f.length=e.size /\
   (∀j c,f[j]?=aa c->w.cell? ⟨blk,off+i*e.size+j,af⟩=aa c)/\bJ w I e x f) ->
  ∃b:List Value,b.length=l.length*e.size/\(∀j c,b[j]?=aa c->w.cell? ⟨blk,off+j,af⟩=aa c)/\(∀c∈b,c.oneCell'=true) /\
   ∀i x,l[i]?=aa x->bJ w I e x ((b.drop<|i*e.size).take e.size):=by
 intro l;induction l with
 | nil=>intro off h;exact⟨[],aT,aT,aT,aT⟩
 | cons m r n =>
   intro off h;obtain⟨f,s,t,o⟩:=h 0 m rfl;obtain⟨b,u,v,y,z⟩:=n (off:=off+e.size) λi x k=>by
    obtain⟨p,A,C,D⟩:=h (i+1) x (by simpa using k)
    grind
   refine⟨f++b,by rw[iC,iD,JO];omega,λj c q=>?_,λc g=>?_,λi x k=>?_⟩
   .rw[Ro] at q
    grind
   .rcases Oy.1 g with g|g
    .exact o.one c g
    .grind
   .cases i with
    | zero =>
      grind
    | succ i =>
      rw[JO,T3,<-Aq]
      grind
def FW(h:dy B N γ σ a w){b g e n}(p:σ.mem b=aa g)(m:g.row=aa (e,n))(f:freeze σ b=aa aV) :
  ∃bE,dy B N bE aV a w/\Ext B γ σ.mem w bE aV.mem w/\bE.loc=γ.loc/\∀i k j,γ.loc b=aa (i,k)->j<n*e.size->bE.I i j:=by
 obtain⟨m1,q⟩:=h.ok.freeze p m;have r:aV={ bh:=σ.bh,mem:=dn σ.mem b { g with ro:=true } }:=by
  unfold freeze at f;rw[p] at f;cases l:g.ro with
  | true =>
    simp only[l,xj,Lh] at f;subst f;have:dn σ.mem b { g with ro:=true }=σ.mem:=by
     funext c;by_cases e:c=b
     .subst e;rw[bD,p];cases g;subst l;rfl
     .rw[aZ _ e]
    rw[this]
  | false =>
    simp only[l] at f;cases o:g.lk with
    | true=>simp[o] at f
    | false=>simp only[o,BM,Lh] at f;subst f;rfl
 subst r;exact⟨_,h.go q m1,q,rfl,λi k j s t=>.inr ⟨⟨k,s⟩,t⟩⟩
def B7.data{g:Gh}{e l val}(h:B7 w γ.I e l val)(s:∀b o,γ.I b o->g.I b o)
  (t:∀f off cap,val=.slice (aa ⟨f,off,af⟩) l.length cap->∀j,j<l.length*e.size->g.I f (off+j)):bJ w g.I (.slice e) l [val]:=by
 rcases h with ⟨rfl,k,cap,m,p,q⟩|⟨f,off,cap,m,p,q,u⟩
 .rcases q with rfl|⟨f,off,rfl⟩
  .exact .inl ⟨⟨k,by rw[m]⟩,rfl⟩
  .exact .inr ⟨f,off,cap,by rw[m];rfl,pW _,p,λi x n=>by cases n⟩
 .refine .inr ⟨f,off,cap,by rw[m],p,q,λi x n=>?_⟩;obtain⟨es,v,y,z⟩:=u i x n;refine⟨es,v,λj c r=>⟨y j c r,?_⟩,bJ.mono s (λ_ _ _=>rfl) z⟩;have A:j<e.size:=by have:=(iy.1 r).1;omega
  have:_*e.size<=l.length*e.size:=gW _ ((iy.1 n).1);rw[JO] at this;rw[EB];exact t f off cap m _ ah
def FX(h:dy B N γ σ a w){e v val l}(t:cI γ σ.mem w v .val [val])(H:jv e σ v=aa l)(z:ji σ v=aa aV) :
  ∃bE,dy B N bE aV a w/\Ext B γ σ.mem w bE aV.mem w/\bJ w bE.I (.slice e) l [val]:=by
 have o:=tP h.ok t H;rcases oc H with rfl|⟨rfl,rfl⟩|⟨b,A,J,rfl,q,m,f,i⟩|⟨b,A,V,n,J,rfl,q,m,C⟩
 .obtain rfl:=aI z;obtain⟨W,K,g⟩:=eg.1 t;have:W=[val]:=by
   obtain⟨c,rfl⟩:=Y3.1 K.length;rw[g];rfl
  exact⟨γ,h,Ext.refl _ _ _ _,by rw[<-this];exact K⟩
 .obtain rfl:=aI z;obtain rfl:val=_:=by simpa [cI] using t
  exact⟨γ,h,Ext.refl _ _ _ _,.inl ⟨⟨af,rfl⟩,rfl⟩⟩
 .obtain⟨bE,D,u,X,Y⟩:=FW h q (Box.dT f i) z;refine⟨bE,D,u,o.data u.I λx E F g j Z=>?_⟩;obtain⟨L,n',g1,r,G⟩:=bk q m t.2
  grind
 .obtain⟨L,k,r,G,M,O,Q,F,g6,g7,g8,gF,p⟩:=bk q m t.2;obtain rfl:val=_:=by simpa using g6
  have hlk:e=L/\l.length=n.toNat:=by
   rcases C with ⟨f,R,i,rfl⟩|⟨f,k0,R,i,rfl⟩
   .rw[Box.dT f i] at r;obtain⟨rfl,rfl⟩:=eN (aI r);exact⟨rfl,KK G M O⟩
   .rw[Box.sn f i] at r;obtain⟨rfl,rfl⟩:=eN (aI r);rcases p with p|⟨x,c,p,y⟩
    .subst p;exact⟨rfl,by simp[sub]⟩
    .obtain⟨cur,tid,fr,s,q2,S,q5,q7⟩:=((h.ok.boxes b J q).row p).2 _ _ R f i;exact⟨rfl,KK G M (by rw[S];exact O)⟩
  obtain⟨bE,D,u,X,Y⟩:=FW h q r z;refine⟨bE,D,u,o.data u.I λx E T g j Z=>?_⟩;rcases p with p|⟨U,c,p,y⟩
  .grind
  .injection g with s q2 S
   rw[y] at s;injection s with s
   injection s with s q4
   have:(V.toNat+n.toNat)*e.size<=k*e.size:=gW _ ah
   grind
def Ea{e v l b}(h:jv e σ v=aa l)(k:freeze σ b=aa aV):jv e aV v=aa l:=by
 have z:∀c j,σ.mem c=aa j->∃r,aV.mem c=aa { j with ro:=r }:=by
  intro c j q;unfold freeze at k;split at k
  .rename_i p t;cases m:p.ro with
   | true=>simp only[m,xj,Lh] at k;subst k;exact⟨j.ro,q⟩
   | false =>
     cases o:p.lk with
     | true=>simp[m,o] at k
     | false =>
       simp only[m,o,BM,Lh] at k;subst k;by_cases e:c=b
       .subst e;rw[t] at q;obtain rfl:=aI q;exact⟨true,by simp[St.cw,o]⟩
       .exact⟨j.ro,by simp[St.cw,iI e,q]⟩
  .cases k
 rcases oc h with rfl|⟨rfl,rfl⟩|⟨c,u,j,rfl,x,g,f,i⟩|⟨c,u,C,n,j,rfl,x,g,y⟩
 .exact h
 .rfl
 .obtain⟨r,s⟩:=z c j x;simp only[jv,s,g,f,i,adq];simp[toL,Ty.beq_refl]
 .obtain⟨r,s⟩:=z c j x;rcases y with ⟨f,A,i,rfl⟩|⟨f,D,A,i,rfl⟩
  .simp only[jv,s,g,f,i,adq,xj];simp[toL,Ty.beq_refl]
  .simp only[jv,s,g,f,i];simp[toL,Ty.beq_refl]
def FY{s r p q x}(h:tu σ (.pair s r) (.mix p q)=aa x):∃(y:s.den) (z:r.den),tu σ s p=aa y/\tu σ r q=aa z/\x=(y,z):=by
 replace h:(match tu σ s p,tu σ r q with
  | some x,aa y=>aa _
  | _,_=>af)=aa x:=h
 grind
def P1{s r p q y z}(b:tu σ s p=aa y)(c:tu σ r q=aa z):tu σ (.pair s r) (.mix p q)=aa ((y,z):(Ty.pair s r).den):=by
 show(match tu σ s p,tu σ r q with
  | some x,aa y=>aa _
  | _,_=>af)=aa _
 grind
def yw{p q}(h:ji σ (.mix p q)=aa aV):∃bM,ji σ p=aa bM/\ji bM q=aa aV:=by
 unfold ji at h
 grind
def rD{t}:∀{x},tu σ t .ve=aa x->(∀w I,bJ w I t x [.nilIface])/\(∀τ,tu τ t .ve=aa x)/\cY t [.nilIface]=.nilIface/\t.isAgg=false:=by
 induction t with
 | alt u a r g c =>
   intro x h;have h:(match tu σ r .ve with|some x=>aa (aA x)|none=>af)=aa x:=h;cases f:tu σ r .ve with
   | none=>rw[f] at h;cases h
   | some y =>
     rw[f] at h;obtain rfl:=aI h;obtain⟨i,l,j,k⟩:=c f;refine⟨λw I=>i w I,λτ=>?_,j,k⟩;show(match tu τ r .ve with|some x=>aa _|none=>af)=_
     grind
 | BX=>intro x h;exact⟨λw I=>rfl,λτ=>rfl,rfl,rfl⟩
 | slice e=>intro x h;cases h
 | pair a b=>intro x h;cases h
 | _=>intro x h;cases h
def Up:∀{v t x σ aV u},tu σ t v=aa x->ji σ u=aa aV->tu aV t v=aa x:=by
 have one:∀{u e v l σ aV},jv e σ v=aa l->ji σ u=aa aV->jv e aV v=aa l:=by
  intro u;induction u with
  | mix p q f g =>
    intro e v l σ aV h c;simp only[ji] at c
    grind
  | whole b aP=>intro e v l σ aV h c;exact Ea h c
  | part b aP lo n=>intro e v l σ aV h c;exact Ea h c
  | _=>intro e v l σ aV h c;obtain rfl:=aI c;exact h
 intro v;induction v with
 | data u y =>
   intro t x σ aV u h c;cases t with
   | slice e=>exact one h c
   | _=>exact h
 | mix p q f g =>
   intro t x σ aV u h c;cases t with
   | pair s r =>
     obtain⟨y,z,i,j,rfl⟩:=FY h;exact P1 (f i c) (g j c)
   | slice e=>exact one h c
   | _=>cases h
 | ve=>intro t x σ aV u h c;exact(rD h).2.1 _
 | _ =>
   intro t x σ aV u h c;cases t with
   | slice e=>exact one h c
   | _=>cases h
def I6{γ mem v cs}(h:cI γ mem w v .cells cs)(b:dQ v=1):∃c,cs=[c]:=by
 have:=h.length;rw[b] at this;exact Y3.1 this
def Xc:∀{v t x cs σ aV γ a},dy B N γ σ a w->cI γ σ.mem w v .cells cs->tu σ t v=aa x->ji σ v=aa aV ->
  ∃bE,dy B N bE aV a w/\Ext B γ σ.mem w bE aV.mem w/\bJ w bE.I t x cs:=by
 have A:∀{v e l cs σ aV γ a},dQ v=1->(∀c,cI γ σ.mem w v .cells [c]->cI γ σ.mem w v .val [c])->dy B N γ σ a w->cI γ σ.mem w v .cells cs->jv e σ v=aa l->ji σ v=aa aV ->
   ∃bE,dy B N bE aV a w/\Ext B γ σ.mem w bE aV.mem w/\bJ w bE.I (.slice e) l cs:=by
  intro v e l cs σ aV γ a C m h i f j;obtain⟨c,rfl⟩:=I6 i C;exact FX h (m c i) f j
 intro v;induction v with
 | data u y =>
   intro t x cs σ aV γ a h i f j;obtain rfl:=aI j;have key:(∃q:u=t,x=q▸y):=by
    cases t with
    | slice e =>
      rcases oc f with g|⟨g,_⟩|⟨_,_,_,g,_⟩|⟨_,_,_,_,_,g,_⟩
      .injection g with L M;subst L;exact⟨rfl,(eq_of_heq M).symm⟩
      .cases g
      .cases g
      .cases g
    | _=>exact Ty.lQ f
   obtain⟨q,D⟩:=key;subst q;subst D;exact⟨γ,h,Ext.refl _ _ _ _,i⟩
 | mix p q E F =>
   intro t x cs σ aV γ a h i f j;cases t with
   | pair s r =>
     obtain⟨O,Q,rfl,C,R⟩:=i;obtain⟨y,z,S,D,rfl⟩:=FY f;obtain⟨bM,o,G⟩:=yw j;obtain⟨T,U,K,V⟩:=E h C S o;obtain⟨H,W,J,X⟩:=F U (R.ext K) (Up D o) G;exact⟨H,W,K.trans J,O,Q,rfl,bJ.mono J.I J.cells V,X⟩
   | slice e=>exact absurd f cj
   | _=>cases f
 | p7 =>
   intro t x cs σ aV γ a h i f j;cases t with
   | slice e=>exact A (v:=.p7) rfl (λc k=>k) h i f j
   | _=>cases f
 | whole b aP =>
   intro t x cs σ aV γ a h i f j;cases t with
   | slice e=>exact A (v:=.whole b aP) rfl (λc k=>k) h i f j
   | _=>cases f
 | part b aP lo n =>
   intro t x cs σ aV γ a h i f j;cases t with
   | slice e=>exact A (v:=.part b aP lo n) rfl (λc k=>k) h i f j
   | _=>cases f
 | ve =>
   intro t x cs σ aV γ a h i f j;obtain rfl:=aI j;obtain rfl:cs=[.nilIface]:=i;exact⟨γ,h,Ext.refl ..,(rD f).1 _ _⟩
 | _ =>
   intro t x cs σ aV γ a h i f j;cases t with
   | slice e=>exact absurd f cj
   | _=>cases f
def od{t x v val}(h:dy B N γ σ a w)(f:cI γ σ.mem w v .val [val])(g:BZ σ t v=aa (x,aV)) :
  ∃bE,dy B N bE aV a w/\Ext B γ σ.mem w bE aV.mem w/\cI bE aV.mem w (.data t x) .val [val]:=by
 unfold BZ at g;split at g
 .rename_i u y;split at g
  .rename_i H o;obtain⟨rfl,rfl⟩:=eN (aI g);obtain⟨q,z⟩:=Ty.lQ o;subst q;subst z;exact⟨γ,h,Ext.refl _ _ _ _,f⟩
  .cases g
 .split at g
  .rename_i y bM c l;obtain⟨rfl,rfl⟩:=eN (aI g);cases v with
   | data u A=>rename_i m;exact absurd rfl (m u A)
   | mix p q =>
     obtain⟨C,D,E,F,G⟩:=f;obtain rfl:val=_:=by simpa using E
     obtain⟨bE,i,j,k⟩:=Xc h (show cI γ σ.mem w (.mix p q) .cells _ from⟨C,D,rfl,F,G⟩) c l;refine⟨bE,i,j,_,k,?_⟩;cases t with
     | pair s r=>rfl
     | slice e=>exact absurd c cj
     | _=>cases c
   | p7 =>
     cases t with
     | slice e=>obtain⟨bE,i,j,k⟩:=FX h f c l;exact⟨bE,i,j,_,k,rfl⟩
     | _=>cases c
   | whole b aP =>
     cases t with
     | slice e=>obtain⟨bE,i,j,k⟩:=FX h f c l;exact⟨bE,i,j,_,k,rfl⟩
     | _=>cases c
   | part b aP lo n =>
     cases t with
     | slice e=>obtain⟨bE,i,j,k⟩:=FX h f c l;exact⟨bE,i,j,_,k,rfl⟩
     | _=>cases c
   | ve =>
     obtain rfl:=aI l;obtain f:[val]=[Value.nilIface]:=f;obtain rfl:val=.nilIface:=by simpa using f
     exact⟨γ,h,Ext.refl ..,[.nilIface],(rD c).1 _ _,by rw[(rD c).2.2.1]⟩
   | _ =>
     cases t with
     | slice e=>exact absurd c cj
     | _=>cases c
  .cases g
end
end Go.Ge
namespace Go.Ge
open RowKit
section
variable {P:Program} {B:B5} {N:Nat} {γ:Gh} {σ aV:St} {a:Act} {w:World} {d:Option Nat} {cx:Ctx}
def Xd{b:Box}{k c v f}(l:b.buf=false)(m:b.val=v)(h:(EC v k f).run=aa c):({ b with val:=c }:Box).row=b.row:=by
 obtain⟨i,tid,o,s,u,r⟩:=b;subst l;subst m;cases i with
 | data t x =>
   obtain⟨y,j,g⟩:=bind_some h;obtain rfl:=aI g;cases t with
   | arr n e=>cases k<;>exact absurd j cj
   | _=>rfl
 | mix p q =>
   cases k with
   | zero =>
     obtain⟨y,j,g⟩:=bind_some h;obtain rfl:=aI g;rfl
   | succ k =>
     obtain⟨y,j,g⟩:=bind_some h;obtain rfl:=aI g;rfl
 | _=>exact absurd h cj
def agv{bx:Box}{e:Ty}{l:List e.den}{i y}(b:bx.buf=true)(c:bx.val=.data (.slice e) l):({ bx with val:=.data (.slice e) (kh l i y) }:Box).row=bx.row:=by
 rw[Box.dT b c,Box.dT (bx:={ bx with val:=.data (.slice e) (kh l i y) }) b rfl];simp[kh]
def I7{f:Box}{p v c}(h:(Rw f.buf p f.val v).run=aa c)(o:p=[]->f.buf=false->({ f with val:=v }:Box).row=f.row) :
  ({ f with val:=c }:Box).row=f.row:=by
 unfold Rw at h;split at h
 .rename_i b;cases p with
  | nil=>obtain rfl:=aI h;exact o rfl b
  | cons s p =>
    cases s with
    | gz k off=>exact Xd b rfl h
    | idx i size =>
      simp only[Ar] at h;split at h
      .rename_i n e l j;obtain⟨x,q,m⟩:=cg h;obtain⟨z,r,g⟩:=bind_some m;split at g
       .obtain rfl:=aI g;rw[Box.sn b j];exact Box.sn b rfl
       .exact absurd g cj
      .exact absurd h cj
 .rename_i b;split at h
  .rename_i i size p e l j;obtain⟨x,q,m⟩:=cg h;obtain⟨z,r,g⟩:=bind_some m;split at g
   .obtain rfl:=aI g;exact agv b j
   .exact absurd g cj
  .exact absurd h cj
def Eb(h:dy B N γ σ a w){b aP p fit u es}(H:(storeAt b aP p fit u σ).run=aa aV)(hu:cI γ σ.mem w u .cells es)
  (L:∀A,fit A=true->es.length=dQ A) (adN:∀C:Box,fit C.val=true->C.buf=false->({ C with val:=u }:Box).row=C.row)
  {blk cap} (J:γ.loc b=aa (blk,cap)) :
  ∃w',(storeCells ⟨blk,ef p,af⟩ es).run P w=.ok () w'/\dy B N γ aV a w'/\Ext B γ σ.mem w γ aV.mem w':=by
 unfold storeAt at H;split at H
 case h_2=>exact absurd H cj
 rename_i C hb;obtain⟨hc,hr2⟩:=ay H;simp at hc;obtain⟨⟨ake,hlk⟩,M⟩:=hc;obtain⟨A,r,hr3⟩:=bind_some hr2;obtain⟨O,hr4⟩:=ay hr3;obtain⟨c,K,hr5⟩:=bind_some hr4;obtain rfl:=aI hr5;have D:=L A O;have Q:=I7 K λhp g=>by
  subst hp;rw[g] at r;obtain rfl:=aI r
  grind
 have m:=h.ok.boxes b C hb;unfold eB at m;have hbb:C.buf=false\/C.buf=true:=by cases C.buf<;>simp
 rcases hbb with g|g
 .rw[g] at m r K;obtain⟨R,S,f,tid,T,h1,h2,F,n,U⟩:=m;rw[J] at h1;obtain⟨rfl,rfl⟩:=eN (aI h1);obtain⟨k1,k2⟩:=yv U r;have o:ef p+es.length<=f.toList.length:=by rw[D];exact k1
  have V:(ba f.toList (ef p) es).toArray.size=f.size:=by have:=bO o;simpa using this
  obtain⟨m1,W⟩:=h.ok.write hb M J h2 (cur':=(ba f.toList _ es).toArray) V Q
   (λw' mem' t hg=>by
    simp only[g];exact⟨blk,cap,_,tid,T,J,hg,F.same V,n,by simpa using Az (U.ext t) r K (hu.ext t) D⟩)
  exact⟨_,(du (P:=P) blk _ tid T es 0 f w h2 F (by simpa using o) λv hv=>hu.one v hv),h.go W m1,W⟩
 .rw[g] at m r K;obtain⟨e,l,h1,h2,F⟩:=m;rw[h1] at r K;rcases F with ⟨F,_⟩|⟨R,S,f,tid,T,F,U,h5,n,h6,h7,h8,h9⟩
  .grind
  .rw[J] at F;obtain⟨rfl,rfl⟩:=eN (aI F);cases p with
   | nil=>cases r
   | cons s p =>
     cases s with
     | gz k off=>cases r
     | idx i size =>
       obtain⟨hsb,hn2⟩:=ay r;obtain⟨x,t,X⟩:=cg hn2;obtain⟨x',hx',hs2⟩:=cg K;obtain rfl:x=x':=aI (t.symm.trans hx');obtain⟨z,hq,E⟩:=bind_some hs2;cases hz:toS e z with
       | none=>rw[hz] at E;cases E
       | some y =>
         rw[hz] at E;obtain rfl:=aI E;obtain⟨h0,Y⟩:=vj t;have H:=h9 _ x Y;have hi:=(iy.1 Y).1;have hm2:(i.toNat+1)*e.size<=cap*e.size:=gW _ ah;rw[JO] at hm2;have Z:cI γ σ.mem w (.data e x) .cells _:=H;obtain⟨k1,k2⟩:=yv Z X;rw[H.length] at k1;have hcs:f.toList.length=cap*e.size:=by simpa using h8
         have G:ef (.idx i size::p)=i.toNat*e.size+ef p:=by simp only[ef,(gx hsb)]
         have o:ef (.idx i size::p)+es.length<=f.toList.length:=by rw[G];omega
         have q:(ba f.toList (ef (.idx i size::p)) es).toArray.size=f.size:=by have:=bO o;simpa using this
         obtain⟨m1,W⟩:=h.ok.write hb M J U (cur':=(ba f.toList _ es).toArray) q Q
          (λw' mem' t hg=>by
           simp only[g];refine⟨e,_,rfl,h2,.inr ⟨blk,cap,_,tid,T,J,hg,h5.same q,n,fi (D5 adg) h6,h7,by rw[q];exact h8,?_⟩⟩
           .have hzz:=KJ hz (Az (Z.ext t) X hq (hu.ext t) D);have:=LF rfl (by rw[hcs];exact gW _ h6)
             (λj x hj=>bJ.mono t.I t.cells (h9 j x hj)) hi hzz
            rw[(uu f.toList _ _ e.size es (by rw[D];exact k1) ah),<-G] at this;exact this)
         exact⟨_,(du blk _ tid T es 0 f w U h5.th (by simpa using o) λv hv=>hu.one v hv),h.go W m1,W⟩
def P2{mem}:∀{t x cs},bJ w γ.I t x cs->cI γ mem w (Zj t x) .cells cs:=by
 intro t;induction t with
 | pair a b f c=>intro x cs h;obtain⟨g,i,e,j,k⟩:=h;exact⟨g,i,e,j,c k⟩
 | _=>intro x cs h;exact h
def P3{mem v cs}(h:cI γ mem w v .cells cs):cI γ mem w (adw v) .cells cs:=by
 cases v with
 | data t x=>exact P2 h
 | _=>exact h
def Uq{bx:Box}(e:bx.buf=false)(c:ady bx.val=true):bx.row=none:=by
 unfold Box.row;rw[e];obtain⟨b,tid,f,h,i,g⟩:=bx;cases b with
 | data t x=>cases t<;>first|rfl|cases c
 | mix p q=>rfl
 | _=>cases c
def OC(h:dy B N γ σ a w){b aP p n u es}(q:(uk b aP p n u σ).run=aa aV)(E:cI γ σ.mem w u .cells es)
  (i:es.length=n) {blk cap} (r:γ.loc b=aa (blk,cap)) :
  ∃w',(storeCells ⟨blk,ef p,af⟩ es).run P w=.ok () w'/\dy B N γ aV a w'/\Ext B γ σ.mem w γ aV.mem w':=by
 unfold uk at q;split at q
 case h_2=>exact absurd q cj
 rename_i bx F;obtain⟨G,s⟩:=ay q;simp at G;obtain⟨⟨⟨⟨H,U⟩,t⟩,e⟩,x⟩:=G;obtain⟨V,I,y⟩:=bind_some s;obtain⟨j,z⟩:=ay y;obtain⟨c,W,A⟩:=bind_some z;obtain⟨C,D⟩:=ay A;obtain rfl:=aI D;have k:=i.trans (gx j).symm;have g:=h.ok.boxes b bx F;unfold eB at g;rw[e] at g;obtain⟨J,K,f,tid,L,M,O,Q,l,R⟩:=g;rw[r] at M;obtain⟨rfl,rfl⟩:=eN (aI M);obtain⟨X,k2⟩:=yv (P3 R) I;have m:ef p+es.length<=f.toList.length:=by rw[k];exact X
 have o:(ba f.toList (ef p) es).toArray.size=f.size:=by have:=bO m;simpa using this
 obtain⟨m1,S⟩:=h.ok.write F t r O (cur':=(ba f.toList _ es).toArray) o ((Uq (bx:={ bx with val:=c }) e C).trans (Uq e x).symm)
  (λw' mem' T Y=>by
   simp only[e];exact⟨blk,cap,_,tid,L,r,Y,Q.same o,l,by simpa using Az (P3<|R.ext T) I W (E.ext T) k⟩)
 exact⟨_,(du blk _ tid L es 0 f w O Q (by simpa using m) λv Z=>E.one v Z),h.go S m1,S⟩
def B8{ty blk off n v w'}(b:(Go.sizeOf ty).run P w=.ok n w)(e:v.cells.toList.length=n)(c:(storeCells ⟨blk,off,af⟩ v.cells.toList).run P w=.ok () w') :
  (Instr.storeAt ty (.pointer<|some ⟨blk,off,af⟩) v).run P w=.ok () w':=by
 simp only[Instr.storeAt,Instr.sureAddr,storeVar,Sem.run_bind,Sem.run_pure,Result.andThen_ok,b]
 grind
def JV(D:fN P cx){bf ty x y}(h:dy B N γ σ a w)(E:(mU cx bf ty (cW σ x) (cW σ y) σ).run=aa aV) :
  ∃w' bE,(Instr.storeAt ty (a.eval x)<|a.eval y).run P w=.ok () w'/\dy B N bE aV a w'/\Ext B γ σ.mem w bE aV.mem w':=by
 have hv:=h.cW x;have hy:=h.cW y;unfold mU at E;split at E
 case h_2=>exact absurd E cj
 rename_i b aP p hx;rw[hx] at hv;split at E
 case h_2=>exact absurd E cj
 rename_i o Z;obtain⟨F,M⟩:=ay E;obtain⟨s,hn,A⟩:=bind_some M;obtain⟨O,Q,hl,l⟩:=bk Z (gx F) hv.2;obtain l:a.eval x=_:=by simpa using l
 rw[l];split at A
 .rename_i u z;obtain⟨r,f⟩:=ay A;have r:=jz r;have hD:=D.T _ _ r;cases R:dc bf 8000000&&adx u _ with
  | true =>
    rw[R] at f;have how:=(ac4.1 R).2;have m:cI γ σ.mem w (cW σ y) .cells (a.eval y).cells.toList:=by
     refine hy.jO (λu' e=>?_) (λe=>?_)
     .rw[e] at how;cases how
     .rw[e] at how;cases how
    have C:dQ (cW σ y)=u.size:=by
     unfold adx at how;split at how
     .rename_i e;rw[e];exact P0 how
     .rename_i e;rw[e];exact LL how
     .grind
    have c:(a.eval y).cells.toList.length=u.size:=by rw[m.length,C]
    obtain⟨w',K,G,H⟩:=OC h f m c hl;exact⟨w',γ,B8 (hD.sizeOf w) c K,G,H⟩
  | false =>
  rw[R] at f;split at f
  .rename_i y0 bM hg;obtain⟨I,s1,s2,s3⟩:=od h hy hg;obtain⟨cs,L,c2⟩:=s3;obtain S:a.eval y=_:=by simpa using c2
   have U:(a.eval y).cells.toList=cs:=by rw[S];exact ur L
   obtain⟨V,g1,g2,g3⟩:=s2.boxes b o Z;have W:I.loc b=aa (O,Q):=by
    have hv':V.aP=o.aP:=by
     unfold storeAt at f;split at f
     .rename_i bx2 hb2;obtain⟨D,_⟩:=ay f;simp_all
     .grind
    grind
   obtain⟨w',K,G,H⟩:=Eb (P:=P) s1 f L (λs g=>by
    unfold ais at g;split at g
    .rename_i t q;obtain rfl:=Ty.eq_of_beq g;exact L.length
    .cases g) (λo g i=>by
    unfold ais at g;split at g
    .rename_i t q J;obtain rfl:=Ty.eq_of_beq g;cases t with
     | arr n e=>rw[Box.sn i J];exact Box.sn i rfl
     | _=>unfold Box.row;rw[i,J]
    .cases g) W
   refine⟨w',I,B8 (hD.sizeOf w) ?_ ?_,G,s2.trans H⟩
   .rw[U];exact L.length
   .grind
  .exact absurd f cj
 .obtain⟨r,f⟩:=ay A;simp at r;obtain⟨X,k⟩:=r;have key:∀{v},As cx ty v=true->isRef v=true->dQ v=1/\(Go.sizeOf ty).run P w=.ok 1 w:=by
   intro v j Y;unfold As at j;split at j
   .cases Y
   .split at j
    .rename_i e r;exact⟨rfl,(D.T _ _ r).sizeOf w⟩
    .cases j
   .exact⟨rfl,(D.vf _ j).2.1 w⟩
   .exact⟨rfl,(D.vf _ j).2.1 w⟩
   .exact⟨rfl,(D.vf _ j).2.1 w⟩
   .cases j
  obtain⟨j,C⟩:=key X k;have m:cI γ σ.mem w (cW σ y) .cells (a.eval y).cells.toList:=by
   refine hy.jO (λu e=>?_) (λe=>?_)
   .rw[e] at k;cases k
   .rw[e] at k;cases k
  have c:(a.eval y).cells.toList.length=1:=by rw[m.length,j]
  obtain⟨w',K,G,H⟩:=Eb h f m (λs g=>by
   simp at g;rcases g with g|g
   .rw[c,(key g.1 g.2).1]
   .rw[c];cases s<;>first|rfl|cases g) (λo g i=>by
   simp at g;have e1:∀{v} {o:Box},(isRef v=true\/Zl v=true)->o.buf=false->o.val=v->o.row=none:=by
    intro v o j Y h3;unfold Box.row;rw[Y,h3];cases v<;>first|rfl|(rcases j with j|j<;>cases j)
   rw[e1 (g.elim (λq=>.inl q.2) .inr) i rfl];exact e1 (.inl k) i rfl) hl
  exact⟨w',γ,B8 C c K,G,H⟩
def tQ t v:(newVar t v).run P w=.ok ⟨w.heap.size,0,af⟩ (w.alloc<|.cells v.cells t):=by
 simp[newVar,newRow]
def C9{mem w' b c cap}:cI (bP γ b<|some (w.heap.size,cap)) (dn mem b c) w' (.ptr b c.aP []) .val [.pointer<|some ⟨w.heap.size,0,af⟩] :=
 ⟨⟨_,rfl,rfl⟩,gE (bD _ _) rfl ⟨w.heap.size,cap,by simp[bP],rfl⟩⟩
def Ur(j:fN P cx){b:TypeId}{nb k t}(h:dy B N γ σ a w)(l:k<N)(m:find cx.T b=aa t)
  (n:(σ.bA (nb+k) (.data t t.zero) 0 false λc σ=>.ret (σ.put k<|.ptr (nb+k) c [])).run=aa aV) :
  oT P B N γ σ a w (aa k) (Instr.alloc b true<|.tuple #[]) aV:=by
 obtain⟨c,e,f⟩:=dV n;obtain rfl:=aI f;obtain⟨z,o,g⟩:=(j.T _ _ m).zero w;obtain⟨m1,i⟩:=h.ok.newVar (v:=.data t t.zero) e b (.inl rfl) (by rw[g];exact mZ w γ.I t);refine⟨.pointer _,_,_,?_,h.step i m1 l C9,i⟩;simp only[Instr.alloc,Sem.run_bind,o,Result.andThen_ok,tQ,Sem.run_pure]
def JW(j:fN P cx){b:TypeId}{nb k}(h:dy B N γ σ a w)(l:k<N)(m:dc cx.vf b=true)
  (n:(σ.bA (nb+k) .undef 0 false λe σ=>.ret (σ.put k<|.ptr (nb+k) e [])).run=aa aV) :
  oT P B N γ σ a w (aa k) (Instr.alloc b true<|.tuple #[]) aV:=by
 obtain⟨e,f,g⟩:=dV n;obtain rfl:=aI g;obtain⟨z,o,c⟩:=(j.vf _ m).2.2;obtain⟨m1,i⟩:=h.ok.newVar (v:=.undef) f (cs:=z.cells) b (.inl rfl) ⟨z,by cases z<;>first|rfl|(simp[Value.oneCell'] at c),c⟩;refine⟨.pointer _,_,_,?_,h.step i m1 l C9,i⟩;simp only[Instr.alloc,Sem.run_bind,o,Result.andThen_ok,tQ,Sem.run_pure]
def Us{b aP}:∀{C j σ γ r},bF B γ σ.mem w->(mkObj b aP C j σ).run=aa r ->
  ∃c,bF B c r.2.mem w/\Ext B γ σ.mem w c r.2.mem w/\r.2.bh=σ.bh /\
   ∀bE mem' w',Ext B c r.2.mem w bE mem' w'->(∃bx s u,mem' b=aa bx/\aP<=bx.aP/\bE.loc b=aa (s,u))->cI bE mem' w' r.1 .cells (LD C):=by
 intro C;induction C with
 | nil=>intro j σ γ r h x;obtain rfl:=aI x;exact⟨γ,h,Ext.refl _ _ _ _,rfl,λ_ _ _ _ _=>rfl⟩
 | cons f r z =>
   intro j σ γ q h x;cases f with
   | dat t =>
     obtain⟨y,l,m⟩:=bind_some x;obtain rfl:=aI m;obtain⟨c,n,g,o,p⟩:=z h l;exact⟨c,n,g,o,λbE mem' w' i k=>⟨_,_,rfl,mZ _ _ t,p bE mem' w' i k⟩⟩
   | one =>
     obtain⟨y,l,m⟩:=bind_some x;obtain rfl:=aI m;obtain⟨c,n,g,o,p⟩:=z h l;exact⟨c,n,g,o,λbE mem' w' i k=>⟨[.pointer af],_,rfl,rfl,p bE mem' w' i k⟩⟩
   | fnc =>
     obtain⟨y,l,m⟩:=bind_some x;obtain rfl:=aI m;obtain⟨c,n,g,o,p⟩:=z h l;exact⟨c,n,g,o,λbE mem' w' i k=>⟨[.nilFunc],_,rfl,⟨_,rfl,rfl⟩,p bE mem' w' i k⟩⟩
   | self =>
     obtain⟨y,l,m⟩:=bind_some x;obtain rfl:=aI m;obtain⟨c,n,g,o,p⟩:=z h l;refine⟨c,n,g,o,λbE mem' w' i k=>⟨[.pointer af],_,rfl,?_,p bE mem' w' i k⟩⟩;obtain⟨bx,s,u,G,H,I⟩:=k;exact⟨⟨_,rfl,rfl⟩,bx,G,H,λ_=>⟨s,u,I,.inl rfl⟩⟩
   | buf e J =>
     obtain⟨K,D⟩:=ay x;have E:0<e.size:=by simpa using K
     obtain⟨v,A,F⟩:=dV D;obtain⟨y,l,m⟩:=bind_some F;obtain rfl:=aI m;obtain⟨m1,L⟩:=h.LH A E;obtain⟨c,n,g,o,p⟩:=z m1 l;refine⟨c,n,L.trans g,o,λbE mem' w' i k=>⟨[.slice af 0 0],_,rfl,?_,p bE mem' w' i k⟩⟩;refine cI.ext (g.trans i) ?_;exact⟨⟨_,rfl,rfl⟩,gE (bD _ _) rfl ⟨e,0,rfl,rfl,.inl ⟨by simp[bP],rfl⟩⟩⟩
def JX(s:fN P cx){b:TypeId}{nb k p}(h:dy B N γ σ a w)(t:k<N)(u:find cx.wb b=aa p)
  (v:((mkObj (nb+k) (KD σ<|nb+k) p 0 σ).bind λr=>r.2.bA (nb+k) r.1 b false λaP σ=>.ret (σ.put k<|.ptr (nb+k) aP [])).run=aa aV) :
  oT P B N γ σ a w (aa k) (Instr.alloc b true<|.tuple #[]) aV:=by
 obtain⟨r,x,y⟩:=bind_some v;obtain⟨f,g,i,A,C⟩:=Us h.ok x;obtain⟨aP,c,j⟩:=dV y;obtain rfl:=aI j;obtain⟨z,D,l⟩:=aaH (s.wb _ _ u) w;have m:KD σ (nb+k)<=aP:=by
  unfold KD;split
  .rename_i bx n;obtain⟨E,G,H,_⟩:=i.boxes _ bx n
   grind
  .grind
 let bx:Box:={ val:=r.1,tid:=b,buf:=false,ro:=false,lk:=false,aP }
 have q:we B w (w.alloc<|.cells z.cells b):=(we.refl _ _).alloc g.base _;have hx:=wg (L:=aa (w.heap.size,0)) g (bx:=bx) c q (cZ w _);have o:eB (bP f (nb+k)<|some (w.heap.size,0)) _ _ (nb+k) bx :=
  ⟨w.heap.size,0,z.cells,b,_,by simp[bP],heap_alloc_new w _,vk _,.inr rfl,by
   rw[l];exact C _ _ _ hx ⟨bx,w.heap.size,0,bD _ _,m,by simp[bP]⟩⟩
 refine⟨.pointer<|some ⟨w.heap.size,0,af⟩,_,_,?_,?_,i.trans hx⟩
 .simp only[Instr.alloc,Sem.run_bind,D,Result.andThen_ok,tQ,Sem.run_pure]
 .have:=h.step (i.trans hx) (g.add c q (cZ w _) (λF k e=>by obtain⟨rfl,rfl⟩:=eN (aI e);exact⟨bV _,aT⟩) o) t (C9);rw[<-A] at this;exact this
def I8{b j v σ r}(c:(oP b [] j v σ).run=aa r):r=(v,σ):=by
 cases v with
 | data t x=>cases t<;>first|(obtain rfl:=aI c;rfl)|cases c
 | _=>cases c
def FZ{b j f q v σ r}(h:(oP b (f::q) j v σ).run=aa r) :
  (∃x u y,v=.mix x u/\(oP b q (j+1) u σ).run=aa y/\r=(.mix x y.1,y.2)) \/
  (∃e i u,v=.mix .p7 u/\0<e.size/\(σ.bA (b*1000+999-j) (.data (.slice e) []) i true λm σ=>(oP b q (j+1) u σ).bind λx=>.ret (.mix (.whole (b*1000+999-j) m) x.1,x.2)).run=aa r):=by
 cases v with
 | mix a u =>
   cases f with
   | dat t =>
     cases a with
     | data p z =>
       obtain⟨y,k,l⟩:=bind_some h;exact .inl ⟨_,u,y,rfl,k,(aI l).symm⟩
     | _=>cases h
   | one =>
     cases a with
     | vd =>
       obtain⟨y,k,l⟩:=bind_some h;exact .inl ⟨_,u,y,rfl,k,(aI l).symm⟩
     | _=>cases h
   | buf e i =>
     cases a with
     | p7 =>
       obtain⟨o,n⟩:=ay h;exact .inr ⟨e,i,u,rfl,by simpa using o,n⟩
     | _=>cases h
   | fnc =>
     cases a with
     | undef =>
       obtain⟨y,k,l⟩:=bind_some h;exact .inl ⟨_,u,y,rfl,k,(aI l).symm⟩
     | fn g c =>
       obtain⟨y,k,l⟩:=bind_some h;exact .inl ⟨_,u,y,rfl,k,(aI l).symm⟩
     | _=>cases h
   | self=>cases a<;>cases h
 | _=>cases f<;>cases h
def JY(p:fN P cx){b:TypeId}{nb k bf t}(h:dy B N γ σ a w)(q:k<N)(r:find cx.T b=aa t)
  (j:(wZ nb bf k t σ).run=aa aV):oT P B N γ σ a w (aa k) (Instr.alloc b true<|.tuple #[]) aV:=by
 unfold wZ at j;split at j
 .rename_i e _;obtain⟨x,l⟩:=ay j;have m:0<e.size:=by simpa using x
  obtain⟨v,f,n⟩:=dV l;obtain⟨m1,s⟩:=h.ok.LH (tid:=0) f m;obtain⟨y,c,o⟩:=dV n;obtain rfl:=aI o;obtain⟨i,z,A,G,C,D⟩:=(p.T _ _ r).info;have E:(zeroValue b).run P w=.ok z w:=by simp[zeroValue,typeInfo,A,C]
  have g:cI (bP γ ((nb+k)*1000+999) af) (dn σ.mem ((nb+k)*1000+999) { val:=.data (.slice e) ([]),tid:=0,buf:=true,ro:=false,lk:=false,aP:=v }) w (.whole ((nb+k)*1000+999) v) .cells z.cells.toList:=by
   rw[D];exact⟨⟨_,rfl,rfl⟩,gE (bD _ _) rfl ⟨e,0,rfl,rfl,.inl ⟨by simp[bP],rfl⟩⟩⟩
  obtain⟨F,u⟩:=m1.newVar c b (.inl rfl) g;refine⟨.pointer _,_,_,?_,h.step (s.trans u) F q C9,s.trans u⟩;simp only[Instr.alloc,Sem.run_bind,E,Result.andThen_ok,tQ,Sem.run_pure]
 .exact Ur p h q r j
def OD{b}:∀{m j v σ γ r cs},bF B γ σ.mem w->cI γ σ.mem w v .cells cs->(oP b m j v σ).run=aa r ->
  ∃c,bF B c r.2.mem w/\Ext B γ σ.mem w c r.2.mem w/\r.2.bh=σ.bh/\cI c r.2.mem w r.1 .cells cs:=by
 intro m;induction m with
 | nil =>
   intro j v σ γ r cs h l n;obtain rfl:=I8 n;exact⟨γ,h,Ext.refl _ _ _ _,rfl,l⟩
 | cons f q G =>
   intro j v σ γ r cs h l n;rcases FZ n with ⟨x,u,y,rfl,o,rfl⟩|⟨e,I,u,rfl,J,p⟩
   .obtain⟨s,t,rfl,z,A⟩:=l;obtain⟨c,C,g,D,E⟩:=G h A o;exact⟨c,C,g,D,s,t,rfl,z.ext g,E⟩
   .obtain⟨k,i,F⟩:=dV p;obtain⟨y,o,K⟩:=bind_some F;obtain rfl:=aI K;obtain⟨s,t,rfl,z,A⟩:=l;obtain⟨m1,H⟩:=h.LH i J;obtain⟨c,C,g,D,E⟩:=G m1 (A.ext H) o;obtain rfl:s=[.slice af 0 0]:=z;refine⟨c,C,H.trans g,D,[.slice af 0 0],t,rfl,?_,E⟩;refine cI.ext g ?_;exact⟨⟨_,rfl,rfl⟩,gE (bD _ _) rfl ⟨e,0,rfl,rfl,.inl ⟨by simp[bP],rfl⟩⟩⟩
def OE{elem nb k x j}(h:dy B N γ σ a w)(l:k<N)(m:cW σ x≠.undef)(n:∀u,cW σ x≠.BR u)
  (o:((oP (nb+k) j 0 (cW σ x) σ).bind λr=>r.2.bA (nb+k) r.1 elem false λb σ=>.ret (σ.put k<|.ptr (nb+k) b [])).run=aa aV) :
  oT P B N γ σ a w (aa k) (Instr.box elem<|a.eval x) aV:=by
 obtain⟨r,p,q⟩:=bind_some o;obtain⟨s,t,g,v,y⟩:=OD h.ok ((h.cW x).jO n λe=>absurd e m) p;obtain⟨b,c,f⟩:=dV q;obtain rfl:=aI f;obtain⟨m1,i⟩:=t.newVar c elem (.inr rfl) y;refine⟨.pointer<|some ⟨w.heap.size,0,af⟩,_,_,?_,?_,g.trans i⟩
 .simp only[Instr.box,Sem.run_bind,tQ,Result.andThen_ok,Sem.run_pure]
 .have:=h.step (g.trans i) m1 l C9;rw[<-v] at this;exact this
def aaM{elem nb k x}(h:dy B N γ σ a w)(i:k<N)(j:cW σ x≠.undef)(l:∀u,cW σ x≠.BR u)
  (m:(σ.bA (nb+k) (cW σ x) 0 false λb σ=>.ret (σ.put k<|.ptr (nb+k) b [])).run=aa aV) :
  oT P B N γ σ a w (aa k) (Instr.box elem<|a.eval x) aV:=by
 obtain⟨b,c,f⟩:=dV m;obtain rfl:=aI f;obtain⟨m1,g⟩:=h.ok.newVar c elem (.inl rfl) ((h.cW x).jO l λe=>absurd e j);refine⟨.pointer _,_,_,?_,h.step g m1 i C9,g⟩;simp only[Instr.box,Sem.run_bind,tQ,Result.andThen_ok,Sem.run_pure]
def agx{mem}:∀{u v k vs},cI γ mem w u .many vs->nth u k=aa v->∃x,vs[k]?=aa x/\cI γ mem w v .val [x]:=by
 intro u;induction u with
 | mix p q f e =>
   intro v k vs h b;obtain⟨c,r,rfl,g,i⟩:=h;cases k with
   | zero=>obtain rfl:=aI b;exact⟨c,rfl,g⟩
   | succ k=>obtain⟨x,j,l⟩:=e i b;exact⟨x,by simpa using j,l⟩
 | _=>intro v k vs h b;exact absurd b cj
def OG{x k vs v}(h:dy B N γ σ a w)(e:∀k,d=aa k->k<N)(f:cW σ x=.BR vs)(g:nth vs k=aa v) :
  oT P B N γ σ a w d (Instr.extract (a.eval x) k) (σ.bu d v):=by
 have hv:=h.cW x;rw[f] at hv;obtain⟨b,c,i⟩:=hv;obtain c:a.eval x=_:=by simpa using c
 obtain⟨y,j,l⟩:=agx i g;refine bK h e ?_ l;rw[c];have:b[k]?=aa y:=by simpa using j
 simp only[Instr.extract,this,Sem.run_pure]
def adR:∀{ops:List Operand} {cs},dy B N γ σ a w->Hs (ops.map<|cW σ)=aa cs->cs.length=ops.length /\
  ∀(i:Nat) b aP,cs[i]?=aa (b,aP)->n9 σ.mem b aP λ_=>∃c g,γ.loc b=aa (c,g)/\(ops.map a.eval)[i]?=aa (.pointer<|some ⟨c,0,af⟩):=by
 intro ops;induction ops with
 | nil=>intro cs h f;obtain rfl:=aI f;exact⟨rfl,λi b aP k=>by cases k⟩
 | cons o r q =>
   intro cs h f;have n:=h.cW o;unfold Hs at f;split at f
   .rename_i j;cases j
   .rename_i D p E j;injection j with s t
    subst t;rw[s] at n;cases l:Hs _ with
    | none=>rw[l] at f;cases f
    | some u =>
      rw[l] at f;obtain rfl:=aI f;obtain⟨v,F⟩:=q h l;refine⟨by simp[v],λi b aP k=>?_⟩;cases i with
      | zero =>
        obtain⟨rfl,rfl⟩:=eN (aI k);obtain⟨x,y,z,A⟩:=n.2;refine⟨x,y,z,λe=>?_⟩;obtain⟨c,g,C,m⟩:=A e;obtain m:a.eval o=_:=by simpa using m
        exact⟨c,g,C,by simp[m,ef]⟩
      | succ i =>
        grind
   .cases f
def LO{f:Nat}{c:Array Operand}{cs}(h:dy B N γ σ a w)(g:∀k,d=aa k->k<N)(e:Hs (c.toList.map<|cW σ)=aa cs) :
  oT P B N γ σ a w d (Instr.makeFunc (.func f) #[] (c.map a.eval)) (σ.bu d<|.fn f cs):=by
 obtain⟨j,m⟩:=adR h e;refine bK h g rfl ?_;refine⟨c.map a.eval,rfl,by rw[j];simp,λi b l n=>?_⟩
 grind
end
end Go.Ge
