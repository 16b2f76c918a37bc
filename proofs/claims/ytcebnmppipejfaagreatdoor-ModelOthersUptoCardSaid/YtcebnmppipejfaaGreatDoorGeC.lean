import Derived.Test.YtcebnmppipejfaaGreatDoorGeB
set_option linter.unusedVariables false
set_option linter.unusedSimpArgs false
set_option linter.unusedSectionVars false
set_option linter.defProp false
open Option renaming some->ab,none->ah
namespace Go.Ge
open RowKit
section
variable {P:Program} {B:BA} {N:Nat} {γ:Gh} {σ aY:St} {a:Act} {w:World} {d:Option Nat} {cx:Ctx}
def IV{s b k f u}(e:P.underlying s=ab (.struct b))(g:b.toList[k]?=ab f)(h:Den P u f.type)(j:0<u.size) blk off :
  (Instr.fieldAt s (.pointer<|some ⟨blk,off,ah⟩) k).run P w=.ok (.pointer<|some ⟨blk,off+f.offset,ah⟩) w:=by
 have c:b[k]?=ab f:=by simpa using g
 have i:¬(u.size=0):=ai;simp only[Instr.fieldAt,Sem.run_bind,run_underlying e,Result.andThen_ok,c,Instr.sureAddr,Sem.run_pure,fieldPlace,h.sizeOf w,aR i,addr_add]
def RE{s b k f i}(g:P.underlying s=ab (.struct b))(h:b.toList[k]?=ab f)(j:P.info? f.type=ab i)(m:0<i.size) blk off :
  (Instr.fieldAt s (.pointer<|some ⟨blk,off,ah⟩) k).run P w=.ok (.pointer<|some ⟨blk,off+f.offset,ah⟩) w:=by
 have c:b[k]?=ab f:=by simpa using h
 have l:¬(i.size=0):=ai;have e:(Go.sizeOf f.type).run P w=.ok i.size w:=by simp[Go.sizeOf,typeInfo,j]
 simp only[Instr.fieldAt,Sem.run_bind,run_underlying g,Result.andThen_ok,c,Instr.sureAddr,Sem.run_pure,fieldPlace,e,aR l,addr_add]
def Ew{t s}(g:Den P t s){k u o}(e:xP t k=ab u)(h:kk t k=ab o) :
  ∃(c:Array Field) (f:Field),P.underlying s=ab (.struct c)/\c.toList[k]?=ab f/\f.offset=o/\Den P u f.type/\0<u.size:=by
 cases t with
 | pair a b =>
   obtain⟨c,j,i,_⟩:=g.pair;obtain⟨f,l,m,n,p⟩:=i.at e h
   grind
 | _=>cases k<;>cases e
def Dw(G:fS P cx){s x k}(h:dJ B N γ σ a w)(H:∀k,d=ab k->k<N)(r:(fy cx d s (dw σ x) k σ).run=ab aY) :
  oM P B N γ σ a w d (Instr.fieldAt s (a.eval x) k) aY:=by
 have hv:=h.dw x;unfold fy at r;split at r
 .rename_i u y I;rw[I] at hv;obtain⟨J,c⟩:=aI r;split at c
  .rename_i o t z S;obtain rfl:=aQ c;obtain⟨g,l,U,K,V,W⟩:=hv;obtain K:a.eval x=_:=by simpa using K
   obtain⟨t',z',X,Y,Z,e4,e5⟩:=Ev V S;cases X;obtain⟨O,f,A,C,Q,D,E⟩:=Ew (G.T _ _<|jI J) Y Z;refine bV h H (by rw[K];exact IV A C D E g l) ⟨g,l+f.offset,(U.drop o).take t.size,rfl,e5,λj v F=>?_⟩;rw[jP] at F;split at F
   .rw[sY] at F;have:=W _ v F
    grind
   .cases F
  .cases c
 .rename_i b aU p I;rw[I] at hv;obtain⟨J,c⟩:=aI r;obtain⟨R,m,n⟩:=ld J;split at c
  .rename_i t hT;split at c
   .rename_i l u L hu;obtain rfl:=aQ c;obtain⟨g,q,M,e⟩:=bA m n hv.2;obtain e:a.eval x=_:=by simpa using e
    obtain⟨O,f,A,C,Q,D,E⟩:=Ew (G.T _ _ hT) hu L;refine bV h H (by rw[e];exact IV A C D E g _) ⟨⟨_,rfl,rfl⟩,R,m,ai,λ_=>⟨g,q,M,?_⟩⟩;rw[BS];simp[eC]
   .cases c
  .split at c
   .rename_i O hO;split at c
    .rename_i l L;obtain rfl:=aQ c;obtain⟨g,q,M,e⟩:=bA m n hv.2;obtain e:a.eval x=_:=by simpa using e
     obtain⟨gs,f,i,A,C,Q,D,E⟩:=agE (G.sG _ _ hO) L;refine bV h H (by rw[e];exact RE A C D E g _) ⟨⟨_,rfl,rfl⟩,R,m,ai,λ_=>⟨g,q,M,?_⟩⟩;rw[BS];simp[eC]
    .cases c
   .cases c
 .cases r
def Ul(i:fS P cx){e:TypeId}{k o u y v val}(j:find cx.T e=ab u)(l:cM γ σ.mem w (.data u y) .val [val])(m:vx (.data u y) k=ab (o,v)) :
  ∃z,(Instr.field e val k).run P w=.ok z w/\cM γ σ.mem w v .val [z]:=by
 obtain⟨cs,n,rfl⟩:=eE.1 l;obtain⟨p,D,rfl,g,q,r,s⟩:=Ev n m;obtain⟨t,f,x,A,h,C,E⟩:=Ew (i.T _ _ j) g q;have b:u.isAgg=true:=by cases u<;>first|rfl|(cases k<;>cases g)
 refine⟨cY p _,?_,_,s,rfl⟩;have c:t[k]?=ab f:=by simpa using A
 simp only[cY,b,zS,Instr.field,Sem.run_bind,run_underlying x,Result.andThen_ok,c,asAgg,Sem.run_pure,(CX C (cs:=cs.toArray) (off:=f.offset) (by rw[h];simpa using r) uC)];rw[h]
def nW{t b h}(j:P.underlying t=ab (.slice b))(l:(Go.sizeOf b).run P w=.ok h w)(c e f g:Nat) k {i:Int} (m:0<=i) (n:i<f) :
  (Instr.indexAt t (.slice (ab ⟨c,e,ah⟩) f g)<|.int k i).run P w=.ok (.pointer<|some ⟨c,e+i.toNat*h,ah⟩) w:=by
 simp only[Instr.indexAt,asIntOf,Sem.run_bind,Sem.run_pure,Result.andThen_ok,run_underlying j,T7,m,n,wJ,l,addr_add]
def A4{t b c n}(e:P.underlying t=ab (.array n b))(f:(Go.sizeOf b).run P w=.ok c w) blk off k {i:Int} (g:0<=i) (h:i<n) :
  (Instr.indexAt t (.pointer<|some ⟨blk,off,ah⟩)<|.int k i).run P w=.ok (.pointer<|some ⟨blk,off+i.toNat*c,ah⟩) w:=by
 simp only[Instr.indexAt,asIntOf,Sem.run_bind,Sem.run_pure,Result.andThen_ok,run_underlying e,Instr.sureAddr,T7,g,h,wJ,f,addr_add]
def BU{i n}(h:within i n=true):0<=i/\i<n:=by
 simp only[within,gy,uv] at h;exact h
def jT{i j n}(h:inside i j n=true):0<=i/\i<=j/\j<=n:=by
 simp only[inside,gy,uv] at h;exact⟨h.1.1,h.1.2,h.2⟩
def FN{b aU e n}(h:zV σ b aU=ab (e,n)):∃(i:Box) (k:Nat),σ.mem b=ab i/\i.aU=aU/\i.row=ab (e,k)/\n=k:=by
 unfold zV at h;split at h
 .rename_i i j;cases c:Nat.beq i.aU aU with
  | false=>rw[c] at h;cases h
  | true =>
    rw[c] at h;split at h
    .rename_i m l f g;obtain⟨rfl,rfl⟩:=cd (aQ h);exact⟨i,_,j,iT c,by rw[Box.row,f,g],rfl⟩
    .rename_i o m l f g;obtain⟨rfl,rfl⟩:=cd (aQ h);exact⟨i,_,j,iT c,by rw[Box.row,f,g],rfl⟩
    .cases h
 .cases h
def Box.er{bx:Box}{e:Ty}{l:List e.den}(b:bx.buf=true)(c:bx.val=.data (.slice e) l):bx.row=ab (e,l.length):=by rw[Box.row,b,c]
def Box.rN{b:Box}{e n l}(c:b.buf=false)(f:b.val=.data (.arr n e) l):b.row=ab (e,n):=by rw[Box.row,c,f]
def Aa(c:fS P cx){t e:Nat}(h:P9 cx t=ab e):P.underlying t=ab (.slice e)/\dA cx.rv e=true:=by
 unfold P9 at h;split at h
 .cases h
 .split at h
  .rename_i u f;cases b:dA cx.rv u with
   | false=>rw[b] at h;cases h
   | true =>
     rw[b] at h;obtain rfl:=aQ h;exact⟨c.T8 _ _ f,b⟩
  .cases h
def Xc{b aU i}:∀{m k},(Lu d b aU σ i m k).run=ab aY->∃j,k<=j/\j<k+m/\i=j/\aY=σ.bD d (.ptr b aU [.gz j j]):=by
 intro m;induction m with
 | zero=>intro k c;cases c
 | succ m f =>
   intro k c;have e:=gN c;cases hi:aS i k with
   | true =>
     rw[hi] at e;obtain rfl:=aQ e;exact⟨k,cp _,ai,by simpa [aS] using hi,rfl⟩
   | false =>
     grind
def IW{q}(h:KB q=true):eC q=0:=by
 unfold KB at h;split at h
 .simp[eC,iT h]
 .cases h
def vA(R:fS P cx){ty x S i}(h:dJ B N γ σ a w)(Y:∀k,d=ab k->k<N)(A:(eZ cx d ty (dw σ x) i σ).run=ab aY) :
  oM P B N γ σ a w d (Instr.indexAt ty (a.eval x)<|.int S i) aY:=by
 have hv:=h.dw x;unfold eZ at A;split at A
 .rename_i u e l K F;rw[F] at hv;obtain⟨C,o⟩:=aI A;obtain rfl:=Ty.eq_of_beq C;obtain⟨y,hy,z⟩:=cm o;obtain rfl:=aQ z;obtain⟨L,G⟩:=uA hy;obtain⟨M,H,I,k3,k4⟩:=(R.T _ _ K).slice;obtain⟨cs,E,t⟩:=eE.1 hv;have hi:=(hR.1 G).1;rcases E with ⟨_,E⟩|⟨f,J,r,E,h2,h3,h4⟩
  .grind
  .rw[E] at t;have U:a.eval x=.slice _ _ r:=t;obtain⟨es,g1,V,O⟩:=h4 _ y G;refine bV h Y (by rw[U];exact nW H (I.sizeOf w) f J _ r S L ai) ⟨f,J+i.toNat*u.size,es,rfl,O,λj v W=>?_⟩
   grind
 .rename_i m u n e l K F;rw[F] at hv;obtain⟨C,o⟩:=aI A;simp only[gy] at C;obtain rfl:=Ty.eq_of_beq C.1;obtain rfl:=iT C.2;obtain⟨y,hy,z⟩:=cm o;obtain rfl:=aQ z;obtain⟨L,G⟩:=uA hy;obtain⟨M,H,I,k3⟩:=(R.T _ _ K).arr;obtain⟨f,J,cs,E,h2,h3⟩:=hv;obtain E:a.eval x=_:=by simpa using E
  have hi:i.toNat<m:=by have:=(hR.1 G).1;have:=h2.1;omega
  refine bV h Y (by rw[E];exact A4 H (I.sizeOf w) f J S L ai) ⟨f,J+i.toNat*u.size,_,rfl,(h2.2.2 _ y G),λj v W=>?_⟩;rw[jP] at W;split at W
  .rw[sY] at W;have:=h3 _ v W
   grind
  .cases W
 .rename_i u b X K F;rw[F] at hv;split at A
  .rename_i e n he;obtain⟨C,o⟩:=aI A;obtain rfl:=Ty.eq_of_beq C;obtain⟨hw,z⟩:=cO o;obtain rfl:=aQ z;obtain⟨L,E⟩:=BU hw;obtain⟨Q,k,g,s,D,rfl⟩:=FN he;obtain⟨M,H,I,k3,k4⟩:=(R.T _ _ K).slice;obtain⟨e',n',g1,V,O⟩:=bA g s hv.2;rw[D] at V;obtain⟨rfl,rfl⟩:=cd (aQ V);rcases O with ⟨O,Z⟩|⟨f,r,O,Z⟩
   .exfalso;have hat:=h.ok.boxes b Q g;rw[fj,g1] at hat;obtain⟨e2,l,j1,j2,j3⟩:=hat;rcases j3 with ⟨_,j4⟩|⟨_,_,_,_,_,j3,_⟩
    .rw[Box.er g1 j1] at D
     grind
    .grind
   .obtain Z:a.eval x=_:=by simpa using Z
    refine bV h Y (by rw[Z];exact nW H (I.sizeOf w) f 0 _ r S L E) ⟨⟨_,rfl,rfl⟩,Q,g,ai,λ_=>⟨f,r,O,by simp[eC]⟩⟩
  .cases A
 .rename_i u b X lo n K F;rw[F] at hv;split at A
  .rename_i e n2 he;obtain⟨C,o⟩:=aI A;obtain rfl:=Ty.eq_of_beq C;obtain⟨hw,z⟩:=cO o;obtain rfl:=aQ z;obtain⟨L,E⟩:=BU hw;obtain⟨Q,k,g,s,D,rfl⟩:=FN he;obtain⟨M,H,I,k3,k4⟩:=(R.T _ _ K).slice;obtain⟨e',n',V,O,Z,g5,base,r,g6,g7,g8,gF,g9⟩:=bA g s hv.2;rw[D] at V;obtain⟨rfl,rfl⟩:=cd (aQ V);rcases g9 with g9|⟨f,c,g9,g10⟩
   .omega
   .obtain g6:a.eval x=_:=by simpa using g6
    refine bV h Y (by rw[g6,g10];exact nW H (I.sizeOf w) f _ _ r S L ai) ⟨⟨_,rfl,rfl⟩,Q,g,ai,λ_=>⟨f,c,g9,?_⟩⟩;have:(plus lo i).toNat=lo.toNat+i.toNat:=by simp only[plus];omega
    simp only[eC,this,iV,Fv]
  .cases A
 .rename_i m u b X p K F;rw[F] at hv;obtain⟨C,o⟩:=aI A;obtain⟨Q,g,s⟩:=ld C;obtain⟨hw,z⟩:=cO o;obtain rfl:=aQ z;obtain⟨L,E⟩:=BU hw;obtain⟨M,H,I,k3⟩:=(R.T _ _ K).arr;obtain⟨f,r,hl,t⟩:=bA g s hv.2;obtain t:a.eval x=_:=by simpa using t
  refine bV h Y (by rw[t];exact A4 H (I.sizeOf w) f _ S L E) ⟨⟨_,rfl,rfl⟩,Q,g,ai,λ_=>⟨f,r,hl,?_⟩⟩;rw[BS];simp[eC]
 .rename_i b X q e0 k0 lo n K F;rw[F] at hv;split at A
  .rename_i e he;obtain⟨C,o⟩:=aI A;simp at C;obtain⟨⟨hq,rfl⟩,hl⟩:=C;obtain⟨Q,g,s⟩:=ld hl;obtain⟨H,I⟩:=Aa R he;obtain⟨j,_,W,rfl,rfl⟩:=Xc o;obtain⟨_,f,c,g1,V,O,Z,base,r,g5,g6,g7⟩:=bA g s hv.2;obtain g5:a.eval x=_:=by simpa using g5
   rcases g7 with g7|g7
   .grind
   .rw[IW hq] at g7;have hj':(j:Int)<n.toNat:=ai;refine bV h Y (by rw[g5,g7];exact nW H ((R.rv _ I).2.1 w) f _ _ r S ai hj') ⟨⟨_,rfl,rfl⟩,Q,g,ai,λ_=>⟨f,c,g1,?_⟩⟩;simp[eC]
  .cases A
 .cases A
def JO(r:fS P cx){ty x s i}(h:dJ B N γ σ a w)(z:∀k,d=ab k->k<N)(p:(mX cx d ty (dw σ x) i σ).run=ab aY) :
  oM P B N γ σ a w d (Instr.indexAt ty (a.eval x)<|.int s i) aY:=by
 have hv:=h.dw x;unfold mX at p;split at p
 .rename_i b E q O Q R n e F G;rw[F] at hv;obtain⟨A,f⟩:=aI p;simp at A;obtain⟨⟨H,rfl⟩,I⟩:=A;obtain⟨J,g,l⟩:=ld I;obtain⟨K,L⟩:=Aa r G;split at f
  .rename_i j;obtain⟨C,t⟩:=aI f;obtain rfl:=aQ t;have C:=iq C;obtain⟨_,m,c,M,S,T,U,D,u,v,V,o⟩:=bA g l hv.2;obtain v:a.eval x=_:=by simpa using v
   rcases o with o|o
   .grind
   .rw[IW H] at o;have y:(j:Int)<n.toNat:=ai;show oM P B N γ σ a w d (Instr.indexAt ty _<|.int s j) _
    refine bV h z (by rw[v,o];exact nW K ((r.rv _ L).2.1 w) m _ _ u s ai y) ⟨⟨_,rfl,rfl⟩,J,g,ai,λ_=>⟨m,c,M,?_⟩⟩;simp[eC]
  .cases f
 .exact vA r h z p
def u8_in b:IntKind.u8.min<=u8 b/\u8 b<=IntKind.u8.max:=by
 have:=b.toNat_lt;have c:IntKind.u8.min=0:=aK;have e:IntKind.u8.max=255:=aK;simp only[u8];omega
def JP(C:fS P cx){ty x G i}(h:dJ B N γ σ a w)(D:∀k,d=ab k->k<N)(j:(mY cx d ty (dw σ x) i σ).run=ab aY) :
  oM P B N γ σ a w d (Instr.index ty (a.eval x)<|.int G i) aY:=by
 have hv:=h.dw x;unfold mY at j;split at j
 .rename_i s o p;rw[p] at hv;obtain⟨b,q,g⟩:=cm j;obtain rfl:=aQ g;obtain⟨r,f⟩:=uA q;obtain⟨c,Q⟩:=yD hv;refine bV h D ?_ (mkInt<|u8_in b);rw[c];have H:(⟨List.toArray s⟩:ByteArray)[i.toNat]?=ab b:=by
   have:=(hR.1 f);obtain⟨I,J⟩:=this;rw[getElem?_pos _ i.toNat I];exact congrArg ab J
  simp only[Instr.index,asIntOf,Sem.run_bind,Sem.run_pure,Result.andThen_ok,run_underlying ((C.T _ _ o).str),r,H];rfl
 .rename_i m u n e l o p;rw[p] at hv;obtain⟨t,v⟩:=aI j;simp only[gy] at t;obtain rfl:=Ty.eq_of_beq t.1;obtain rfl:=iT t.2;obtain⟨y,q,g⟩:=cm v;obtain rfl:=aQ g;obtain⟨r,f⟩:=uA q;obtain⟨K,L,E,R⟩:=(C.T _ _ o).arr;obtain⟨F,z,c⟩:=eE.1 hv;have hi:i.toNat<m:=by have:=(hR.1 f).1;have:=z.1;omega
  have M:_*u.size<=m*u.size:=hS _ hi;rw[JL] at M;have O:=z.2.1;refine bV h D ?_ ⟨_,(z.2.2 _ y f),rfl⟩;have A:i<m:=ai;rw[c];show(Instr.index ty (.agg F.toArray) _).run P w=_
  simp only[Instr.index,asIntOf,Sem.run_bind,Sem.run_pure,Result.andThen_ok,run_underlying L,r,A,T7,wJ,E.sizeOf w,(CX E (cs:=F.toArray) (off:=i.toNat*u.size) jA uC)]
 .cases j
def sb0 isSlice len cap:(Instr.sliceBounds isSlice len cap ah ah ah).run P w=.ok (0,len,cap) w:=by simp[Instr.sliceBounds]
def sbh isSlice (len cap:Nat) k {y:Int} (b:0<=y) (c:y<=cap):(Instr.sliceBounds isSlice len cap ah (ab<|.int k y) ah).run P w=.ok (0,y.toNat,cap) w:=by
 have c1:0<=y/\y<=cap:=⟨b,c⟩;simp only[Instr.sliceBounds,Instr.sliceBound,asIntOf,Sem.run_bind,Sem.run_pure,Result.andThen_ok,c1,T7,wJ]
def sbl isSlice (len cap:Nat) k {y:Int} (b:0<=y) (c:y<=len):(Instr.sliceBounds isSlice len cap (ab<|.int k y) ah ah).run P w=.ok (y.toNat,len,cap) w:=by
 have c1:0<=y/\y<=len:=⟨b,c⟩;simp only[Instr.sliceBounds,Instr.sliceBound,asIntOf,Sem.run_bind,Sem.run_pure,Result.andThen_ok,c1,T7,wJ]
def alI isSlice (len cap:Nat) k c {y b:Int} (e:0<=y) (g:y<=b) (f:b<=cap):(Instr.sliceBounds isSlice len cap (ab<|.int k y) (ab<|.int c b) ah).run P w=.ok (y.toNat,b.toNat,cap) w:=by
 have c1:0<=b/\b<=cap:=⟨ai,f⟩;have c2:0<=y/\y<=b.toNat:=⟨e,ai⟩;simp only[Instr.sliceBounds,Instr.sliceBound,asIntOf];simp_all
def qL{lo hi n i j}(h:dJ B N γ σ a w)(b:bounds σ n lo hi=ab (i,j)) isSlice (len cap:Nat) (x:n=len) (s:len<=cap) (p:0<=i) (q:i<=j) (z:j<=n) :
  (Instr.sliceBounds isSlice len cap (lo.map a.eval) (hi.map a.eval) ah).run P w=.ok (i.toNat,j.toNat,cap) w:=by
 have c:∀o k m,dw σ o=.data (.int k) m->a.eval o=.int k m:=λo k m e=>by
  have:=h.dw o;rw[e] at this;exact(vb this).1
 unfold bounds at b;cases lo with
 | none =>
   cases hi with
   | none =>
     have:=sb0 (P:=P) (w:=w) isSlice len cap
     grind
   | some o =>
     simp only at b;split at b
     .rename_i k y f;obtain⟨rfl,g⟩:=cd (aQ b);have e:=c o k _ f;rw[show y=j from g] at e;simp only[P7,e];exact sbh isSlice len cap k q ai
     .cases b
 | some o =>
   cases hi with
   | none =>
     simp only at b;split at b
     .rename_i k y f;have:=sbl (P:=P) (w:=w) isSlice len cap k p ai
      grind
     .cases b
   | some o2 =>
     simp only at b;split at b
     .rename_i k y r t f l;obtain⟨u,v⟩:=cd (aQ b);have e:=c o k _ f;have g:=c o2 r _ l;rw[show y=i from u] at e;rw[show t=j from v] at g;simp only[P7,e,g];exact alI isSlice len cap k r p q ai
     .cases b
def ad2 s {i j} (b:0<=i) (c:i<=j):(⟨s.toArray⟩:ByteArray).extract i.toNat j.toNat=⟨(sub s i<|minus j i).toArray⟩:=by
 have:(minus j i).toNat=j.toNat-i.toNat:=by simp only[minus];omega
 apply ByteArray.ext;simp[sub,this]
def Xd{α}(s:List α) i n:(sub s i n).length<=s.length:=by
 simp only[sub,kC,pP];omega
def ad3{I e}{l:List e.den}{blk off cap i j}(h:∀k x,l[k]?=ab x->∃b,b.length=e.size /\
   (∀q v,b[q]?=ab v->w.cell? ⟨blk,off+k*e.size+q,ah⟩=ab v/\I blk (off+k*e.size+q))/\bY w I e x b) (m:i<=j) (n:j<=l.length) (o:l.length<=cap) (p:cap<=maxLen) base
  (f:base=ab ⟨blk,off+i*e.size,ah⟩\/(i=cap/\base=ab ⟨blk,off,ah⟩)) :
  bY w I (.slice e) ((l.drop i).take<|j-i) [.slice base (j-i)<|cap-i]:=by
 rcases f with rfl|⟨rfl,rfl⟩
 .refine .inr ⟨blk,off+i*e.size,cap-i,?_,?_,ai,λk x g=>?_⟩
  .grind
  .grind
  .grind
 .have c:j=i:=ai;subst c;refine .inr ⟨blk,off,0,bb,bb,ai,λk x g=>?_⟩
  grind
def sub_eq{α}(l:List α){i j}(b:0<=i)(c:i<=j):sub l i (minus j i)=(l.drop i.toNat).take (j.toNat-i.toNat):=by
 have:(minus j i).toNat=j.toNat-i.toNat:=by simp only[minus];omega
 rw[sub,this]
def sub_zero{α}(l:List α):sub l 0 (minus 0 0)=[]:=by simp[sub,minus]
def aa0{I e l blk off cap i j}(c:∀k x,l[k]?=ab x->∃b,b.length=e.size /\
   (∀q v,b[q]?=ab v->w.cell? ⟨blk,off+k*e.size+q,ah⟩=ab v/\I blk (off+k*e.size+q))/\bY w I e x b) (f:0<=i) (g:i<=j) (o:j<=l.length) (h:l.length<=cap) (m:cap<=maxLen) base
  (n:base=ab ⟨blk,off+i.toNat*e.size,ah⟩\/(i.toNat=cap/\base=ab ⟨blk,off,ah⟩)) :
  bY w I (.slice e) (sub l i<|minus j i) [.slice base (j.toNat-i.toNat)<|cap-i.toNat]:=by
 rw[sub_eq l f g];exact ad3 c ai ai h m base n
def wM.sub{base cap}(h:wM base cap) i s:wM (if cap=i then base else base.map (·.add s)) (cap-i):=by
 rcases h with rfl|⟨b,c,rfl⟩
 .exact .inl ai
 .refine .inr ?_;split
  .grind
  .exact⟨b,c+s,by rw[P7,addr_add]⟩
def FH.sub{f b lo i base cap}(h:FH γ f b lo base cap)(j:0<=lo)(n:0<=i) s :
  FH γ f b (plus lo i) (if cap=i.toNat then base else base.map (·.add (i.toNat*s))) (cap-i.toNat):=by
 intro e k;have l:lo=0:=by simp only[plus] at e;omega
 have m:i=0:=by simp only[plus] at e;omega
 subst l;subst m;rcases h rfl k with ⟨g,rfl,rfl⟩|⟨c,g,rfl⟩
 .grind
 .refine .inr ⟨c,by simpa using g,?_⟩;split
  .rfl
  .simp[Addr.add]
def JQ(hc:fS P cx){ty:TypeId}{x:Operand}{lo hi:Option Operand}(h:dJ B N γ σ a w)(hd:∀k,d=ab k->k<N)(F:(mW cx d ty (dw σ x) lo hi σ).run=ab aY) :
  oM P B N γ σ a w d (Instr.sliceAt ty (a.eval x) (lo.map a.eval) (hi.map a.eval) ah) aY:=by
 have hv:=h.dw x;unfold mW at F;split at F
 ·
  rename_i s O Q;rw[Q] at hv;split at F
  .rename_i i j G;obtain⟨A,r⟩:=cO F;obtain rfl:=aQ r;obtain⟨D,J,E⟩:=jT A;obtain⟨p,hl⟩:=yD hv;have hu:=(hc.T _ _ O).str;have y:=qL (P:=P) h G false (List.length (α:=UInt8) s) (List.length (α:=UInt8) s) rfl (cp _) D J E;refine bV h hd (x:=.string ⟨(sub (α:=UInt8) s i<|minus j i).toArray⟩) ?_ (mkStr<|iU (Xd (α:=UInt8) s _ _) hl);rw[p];have hsz:(⟨List.toArray (α:=UInt8) s⟩:ByteArray).size=List.length (α:=UInt8) s:=rfl;simp only[Instr.sliceAt,Instr.slice,Sem.run_bind,run_underlying hu,Result.andThen_ok,hsz,Option.isSome_none,Bool.false_eq_true,if_false];rw[y];simp only[Result.andThen_ok,Sem.run_pure];rw[ad2 (show ay from s) D J]
  .cases F
 ·
  rename_i u e l O Q;rw[Q] at hv;obtain⟨t,o⟩:=aI F;obtain rfl:=Ty.eq_of_beq t;split at o
  .rename_i i j G;obtain⟨A,r⟩:=cO o;obtain rfl:=aQ r;obtain⟨D,J,E⟩:=jT A;obtain⟨Z,U,V,k3,k4⟩:=(hc.T _ _ O).slice;obtain⟨cs,alJ,p⟩:=eE.1 hv;have H:len (α:=u.den) l=(List.length (α:=u.den) l:Int):=rfl;rcases alJ with ⟨⟨K,e1⟩,e2⟩|⟨b,R,f,e1,e2,e3,e4⟩
   .have L:a.eval x=.slice K 0 0:=by rw[p,e1];rfl
    have M:List.length (α:=u.den) l=0:=by rw[show l=([]:List u.den) from e2];rfl
    rw[H,M] at E;have hi0:i=0:=ai;have hj0:j=0:=ai;subst hi0;subst hj0;have y:=qL (P:=P) h G true 0 0 (by rw[H,M]) (cp _) D J (by rw[H,M];exact E);refine bV h hd (x:=.slice K 0 0) ?_ ⟨_,.inl ⟨⟨K,rfl⟩,?_⟩,rfl⟩
    .rw[L];simp only[Instr.sliceAt,Instr.slice,Sem.run_bind,run_underlying U,Result.andThen_ok,y,V.sizeOf w,Sem.run_pure];rfl
    .exact sub_zero (α:=u.den) l
   .have L:a.eval x=.slice (ab ⟨b,R,ah⟩) (List.length (α:=u.den) l) f:=by rw[p,e1];rfl
    have y:=qL (P:=P) h G true (List.length (α:=u.den) l) f H e2 D J E;have hj:j.toNat<=List.length (α:=u.den) l:=by rw[H] at E;omega
    have aka:=aa0 (w:=w) (i:=i) (j:=j) e4 D J (by rw[H] at E;exact E) e2 e3;refine bV h hd (x:=.slice (if f=i.toNat then ab ⟨b,R,ah⟩ else ab ⟨b,R+i.toNat*u.size,ah⟩) (j.toNat-i.toNat) (f-i.toNat)) ?_
     ⟨_,aka (if f=i.toNat then ab ⟨b,R,ah⟩ else ab ⟨b,R+i.toNat*u.size,ah⟩) (by
      split
      .rename_i v;exact .inr ⟨v.symm,rfl⟩
      .exact .inl rfl),rfl⟩
    rw[L];simp only[Instr.sliceAt,Instr.slice,Sem.run_bind,run_underlying U,Result.andThen_ok,y,V.sizeOf w,Sem.run_pure,P7,addr_add]
  .cases o
 ·
  rename_i u c aU lo' n O Q;rw[Q] at hv;split at F
  .rename_i W z;obtain⟨t,o⟩:=aI F;simp only[gy] at t;have C:=iT t.1;split at o
   .rename_i i j G;obtain⟨A,r⟩:=cO o;obtain rfl:=aQ r;obtain⟨D,J,E⟩:=jT A;obtain⟨Z,U,V,k3,k4⟩:=(hc.T _ _ O).slice;obtain⟨e',k,g2,X,g4,g5,g,f,g6,g7,g8,gF,g9⟩:=bA z C hv.2;have hue:u=e':=by
     have:=t.2;rw[g2] at this;exact Ty.eq_of_beq this
    subst hue;obtain g6:a.eval x=_:=by simpa using g6
    have y:=qL (P:=P) h G true n.toNat f ai g7 D J E;refine bV h hd (x:=.slice (if f=i.toNat then g else g.map (·.add (i.toNat*u.size))) (j.toNat-i.toNat) (f-i.toNat)) ?_
     ⟨⟨_,rfl,rfl⟩,W,z,ai,λ_=>⟨u,k,g2,by simp only[plus];omega,by simp only[minus];omega,by simp only[plus,minus];omega,(if f=i.toNat then g else g.map (·.add (i.toNat*u.size))),f-i.toNat,?_,?_,?_,⟨gF.1.sub _ _,gF.2.sub X D _⟩,?_⟩⟩
    .rw[g6];simp only[Instr.sliceAt,Instr.slice,Sem.run_bind,run_underlying U,Result.andThen_ok,y,V.sizeOf w,Sem.run_pure]
    .have:(minus j i).toNat=j.toNat-i.toNat:=by simp only[minus];omega
     rw[this]
    .simp only[minus];omega
    .omega
    .rcases g9 with g9|⟨b,c',g9,g10⟩
     .exact .inl (by simp only[minus];omega)
     .by_cases v:f=i.toNat
      .exact .inl (by simp only[minus];omega)
      .refine .inr ⟨b,c',g9,?_⟩;rw[aR v,g10];have:(plus lo' i).toNat=lo'.toNat+i.toNat:=by simp only[plus];omega
       simp only[P7,addr_add,this,iV]
   .cases o
  .cases F
 ·
  rename_i u c aU O Q;rw[Q] at hv;split at F
  .rename_i W z;obtain⟨t,o⟩:=aI F;simp only[gy] at t;have C:=iT t.1;split at o
   .rename_i e l hbv;obtain⟨hue,r⟩:=aI o;obtain rfl:=Ty.eq_of_beq hue;obtain⟨Z,U,V,k3,k4⟩:=(hc.T _ _ O).slice;obtain⟨e',n',g1,g2,X⟩:=bA z C hv.2;have ad4:W.row=ab (u,List.length (α:=u.den) l):=Box.er t.2 hbv;rw[ad4] at g2;obtain⟨rfl,rfl⟩:=cd (aQ g2);have hat:=h.ok.boxes c W z;rw[fj,g1] at hat;obtain⟨e2,l2,j1,j2,j3⟩:=hat;have akb:∃g f,a.eval x=.slice g (List.length (α:=u.den) l) f/\List.length (α:=u.den) l<=f/\f<=maxLen/\(((f=0/\List.length (α:=u.den) l=0)/\γ.loc c=ah/\g=ah)\/∃b,γ.loc c=ab (b,f)/\g=ab ⟨b,0,ah⟩):=by
     rw[hbv] at j1;cases j1;rcases X with ⟨X,g4⟩|⟨b,f,X,g4⟩
     .obtain g4:a.eval x=_:=by simpa using g4
      rcases j3 with ⟨_,j4⟩|⟨_,_,_,_,_,j3,_⟩
      .have M:List.length (α:=u.den) l=0:=by rw[j4];rfl
       exact⟨ah,0,by rw[g4,M],ai,qK _,.inl ⟨⟨rfl,M⟩,X,rfl⟩⟩
      .rw[X] at j3;cases j3
     .obtain g4:a.eval x=_:=by simpa using g4
      rcases j3 with ⟨j3,_⟩|⟨aa1,aiN,cur,tid,fr,q1,Y,q3,agH,q4,q5,q6,q7⟩
      .rw[X] at j3;cases j3
      .rw[X] at q1;obtain⟨rfl,rfl⟩:=cd (aQ q1);exact⟨_,f,g4,q4,q5,.inr ⟨b,X,rfl⟩⟩
    obtain⟨g,f,m1,m2,m3,m4⟩:=akb;have hF:wM g f:=by
     rcases m4 with ⟨⟨Y,_⟩,_⟩|⟨b,q1,Y⟩
     .exact .inl Y
     .exact .inr ⟨b,0,Y⟩
    have hZ:FH γ W c 0 g f:=λ_ _=>by
     rcases m4 with ⟨⟨Y,_⟩,q3,q4⟩|⟨b,q1,Y⟩
     .exact .inl ⟨q3,q4,Y⟩
     .exact .inr ⟨b,q1,Y⟩
    have I:∀{i j:Int},bounds σ (len (α:=u.den) l) lo hi=ab (i,j)->0<=i->i<=j->j<=len (α:=u.den) l ->
      (Instr.sliceAt ty (a.eval x) (lo.map a.eval) (hi.map a.eval) ah).run P w=.ok (.slice (if f=i.toNat then g else g.map (·.add (i.toNat*u.size))) (j.toNat-i.toNat)<|f-i.toNat) w:=by
     intro i j G D J E;have y:=qL (P:=P) h G true (List.length (α:=u.den) l) f rfl m2 D J E;rw[m1];simp only[Instr.sliceAt,Instr.slice,Sem.run_bind,run_underlying U,Result.andThen_ok,y,V.sizeOf w,Sem.run_pure]
    split at r
    .obtain rfl:=aQ r;have:=I (i:=0) (j:=len (α:=u.den) l) rfl ai (by simp only[len];omega) ai;have hjl:(len (α:=u.den) l).toNat=List.length (α:=u.den) l:=by simp[len]
     rw[hjl] at this;refine bV h hd (x:=a.eval x) ?_ hv;rw[this,m1]
     congr 1
     have:(g.map (·.add ((0:Int).toNat*u.size)))=g:=by cases g<;>simp[Addr.add]
     rw[this];simp
    .split at r
     .rename_i i j G;obtain⟨A,S⟩:=cO r;obtain rfl:=aQ S;obtain⟨D,J,E⟩:=jT A;have H:len (α:=u.den) l=(List.length (α:=u.den) l:Int):=rfl;rw[H] at E;refine bV h hd (I G D J E)
       ⟨⟨_,rfl,rfl⟩,W,z,ai,λ_=>⟨u,_,ad4,D,by simp only[minus];omega,by simp only[minus];omega,(if f=i.toNat then g else g.map (·.add (i.toNat*u.size))),f-i.toNat,?_,?_,?_,⟨hF.sub _ _,by have:=hZ.sub (sF 0) D u.size;rwa [show plus 0 i=i by simp[plus]] at this⟩,?_⟩⟩
      .have:(minus j i).toNat=j.toNat-i.toNat:=by simp only[minus];omega
       rw[this]
      .simp only[minus];omega
      .omega
      .by_cases v:f=i.toNat
       .exact .inl (by simp only[minus];omega)
       .rcases m4 with ⟨q1,q3⟩|⟨b,q1,Y⟩
        .exact .inl ai
        .refine .inr ⟨b,f,q1,?_⟩;rw[aR v,Y];simp only[P7,addr_add,BJ]
     .cases r
   .cases o
  .cases F
 ·
  rename_i m u c aU s q O Q;rw[Q] at hv;obtain⟨hlm,o⟩:=aI F;simp at hlm;obtain⟨W,z,C⟩:=ld hlm.1;split at o
  .rename_i i j G;obtain⟨A,S⟩:=cO o;obtain rfl:=aQ S;obtain⟨D,J,E⟩:=jT A;obtain⟨Z,U,V,k3⟩:=(hc.T _ _ O).arr;obtain⟨b,f,hl,p⟩:=bA z C hv.2;obtain p:a.eval x=.pointer (ab ⟨b,eC _,ah⟩):=by simpa using p
   have y:=qL (P:=P) h G false m m rfl (cp _) D J E;refine bV h hd (x:=.slice (ab<|if m=i.toNat then⟨b,eC (s::q),ah⟩ else(⟨b,eC (s::q),ah⟩:Addr).add (i.toNat*u.size)) (j.toNat-i.toNat) (m-i.toNat)) ?_
    ⟨⟨_,rfl,rfl⟩,W,z,ai,λ_=>⟨bb,b,f,hl,D,by simp only[minus];omega,by simp only[minus];omega,ab (if m=i.toNat then⟨b,eC (s::q),ah⟩ else(⟨b,eC (s::q),ah⟩:Addr).add (i.toNat*u.size)),m-i.toNat,?_,?_,?_⟩⟩
   .rw[p];simp only[Instr.sliceAt,Sem.run_bind,run_underlying U,Result.andThen_ok,Instr.sureAddr,Sem.run_pure,y,V.sizeOf w]
   .have:(minus j i).toNat=j.toNat-i.toNat:=by simp only[minus];omega
    rw[this]
   .simp only[minus];omega
   .by_cases v:m=i.toNat
    .exact .inl (by simp only[minus];omega)
    .refine .inr ?_;rw[aR v];simp only[addr_add]
  .cases o
 ·
  rename_i m u c aU O Q;rw[Q] at hv;split at F
  .rename_i W z;obtain⟨t,o⟩:=aI F;simp only[gy,zP] at t;have C:=iT t.1;split at o
   .rename_i n e l hbv;obtain⟨hq,r⟩:=aI o;simp only[gy] at hq;obtain rfl:=iT hq.1.1;obtain rfl:=Ty.eq_of_beq hq.1.2;have aob:=JH hq.2;split at r
    .rename_i i j G;obtain⟨A,S⟩:=cO r;obtain rfl:=aQ S;obtain⟨D,J,E⟩:=jT A;obtain⟨Z,U,V,k3⟩:=(hc.T _ _ O).arr;obtain⟨b,f,hl,p⟩:=bA z C hv.2;obtain p:a.eval x=.pointer _:=by simpa [eC] using p
     have y:=qL (P:=P) h G false m m rfl (cp _) D J E;have hF:wM (ab<|if m=i.toNat then⟨b,0,ah⟩ else(⟨b,0,ah⟩:Addr).add (i.toNat*u.size)) (m-i.toNat):=by
      refine .inr ?_;split
      .exact⟨b,0,rfl⟩
      .exact⟨b,0+i.toNat*u.size,by rw[addr_add]⟩
     refine bV h hd (x:=.slice (ab<|if m=i.toNat then⟨b,0,ah⟩ else(⟨b,0,ah⟩:Addr).add (i.toNat*u.size)) (j.toNat-i.toNat) (m-i.toNat)) ?_
      ⟨⟨_,rfl,rfl⟩,W,z,ai,λ_=>⟨u,m,Box.rN t.2 hbv,D,by simp only[minus];omega,by simp only[minus];omega,ab (if m=i.toNat then⟨b,0,ah⟩ else(⟨b,0,ah⟩:Addr).add _),m-i.toNat,?_,?_,?_,⟨hF,λ_ G=>by rw[t.2] at G;cases G⟩,?_⟩⟩
     .rw[p];simp only[Instr.sliceAt,Sem.run_bind,run_underlying U,Result.andThen_ok,Instr.sureAddr,Sem.run_pure,y,V.sizeOf w]
     .have:(minus j i).toNat=j.toNat-i.toNat:=by simp only[minus];omega
      rw[this]
     .simp only[minus];omega
     .simp only[maxLen];omega
     .by_cases v:m=i.toNat
      .exact .inl (by simp only[minus];omega)
      .refine .inr ⟨b,f,hl,?_⟩;rw[aR v];simp only[addr_add,BJ]
    .cases r
   .cases o
  .cases F
 .cases F
end
end Go.Ge
namespace Go.Ge
open RowKit
section
variable {P:Program} {B:BA} {N:Nat} {γ:Gh} {σ aY:St} {a:Act} {w:World} {d:Option Nat} {cx:Ctx}
def bY.flat{w w' I I'}:∀{t x cs},t.flat=true->bY w I t x cs->bY w' I' t x cs:=by
 intro t;induction t with
 | int k=>intro x cs _ h;exact h
 | bool=>intro x cs _ h;exact h
 | str=>intro x cs _ h;exact h
 | slice e p=>intro x cs f;cases f
 | arr n e p=>intro x cs f h;exact⟨h.1,h.2.1,λi y q=>p f (h.2.2 i y q)⟩
 | pair a b g j =>
   intro x cs f h;simp only[Ty.flat,gy] at f;obtain⟨s,v,A,l,m⟩:=h;exact⟨s,v,A,g f.1 l,j f.2 m⟩
 | unit=>intro x cs _ h;exact h
 | alt u a r g o =>
   intro x cs f h;simp only[Ty.flat,gy] at f;rcases x with y|z
   .obtain⟨l,c,m,C⟩:=h;exact⟨l,c,m,g f.1 C⟩
   .exact o f.2 h
 | Bz=>intro x cs _ h;exact h
def BV(w:World)(I:Nat->Nat->Prop)(e:Ty)(l:List e.den)(v:Value):Prop :=
 (l=[]/\∃f b,v=.slice f 0 b/\b<=maxLen/\wM f b) \/
 ∃g h b,v=.slice (ab ⟨g,h,ah⟩) l.length b/\l.length<=b/\b<=maxLen /\
  ∀(i:Nat) (x:e.den),l[i]?=ab x->∃k:List Value,k.length=e.size /\
   (∀(j:Nat) c,k[j]?=ab c->w.cell? ⟨g,h+i*e.size+j,ah⟩=ab c)/\bY w I e x k
def Ab{I e}{l:List e.den}{blk cur tid k}(m:w.heap[blk]?=ab (.cells cur tid k)){n}(o:n*e.size<=cur.size)
  (h:∀i x,l[i]?=ab x->bY w I e x ((cur.toList.drop<|i*e.size).take e.size)) (p:l.length<=n) lo :
  ∀i x,(l.drop lo)[i]?=ab x->∃b,b.length=e.size /\
   (∀j c,b[j]?=ab c->w.cell? ⟨blk,lo*e.size+i*e.size+j,ah⟩=ab c)/\bY w I e x b:=by
 intro i x f;rw[sY] at f;have g:=h _ x f;refine⟨_,g.length,λj c q=>?_,g⟩;rw[cell_of_heap m]
 grind
def fj.row{b bx mem}(h:fj γ mem w b bx){blk cap}(v:γ.loc b=ab (blk,cap)) :
  (∀(e:Ty) (l:List e.den),bx.buf=true->bx.val=.data (.slice e) l->∃c tid f,w.heap[blk]?=ab (.cells c tid f)/\nV c f/\l.length<=cap/\cap<=maxLen/\c.size=cap*e.size/\0<e.size /\
   ∀i x,l[i]?=ab x->bY w γ.I e x ((c.toList.drop<|i*e.size).take e.size)) /\
  (∀n (e:Ty) (l:List e.den),bx.buf=false->bx.val=.data (.arr n e) l->∃c tid f,w.heap[blk]?=ab (.cells c tid f)/\nV c f/\l.length=n/\c.size=n*e.size /\
   ∀i x,l[i]?=ab x->bY w γ.I e x ((c.toList.drop<|i*e.size).take e.size)):=by
 refine⟨λe l o p=>?_,λn e l o p=>?_⟩
 .rw[fj,o] at h;obtain⟨D,E,r,y,s⟩:=h;rw[p] at r;cases r;rcases s with ⟨s,_⟩|⟨g,j,c,tid,f,q,t,u,k,m,z,A,C⟩
  .grind
  .rw[v] at q;obtain⟨rfl,rfl⟩:=cd (aQ q);exact⟨c,tid,f,t,u.th,m,z,A,y,C⟩
 .rw[fj,o] at h;obtain⟨g,j,c,tid,f,q,t,u,k,m⟩:=h;rw[p] at m;obtain⟨F,G,H⟩:=m
  grind
def FO{u e l m}(h:toL u e l=ab m):∃q:u=e,m=q▸l:=my h
def nX{e v l}(g:jH e σ v=ab l) :
  v=.data (.slice e) l\/(v=.pQ/\l=[])\/(∃b c f,v=.whole b c/\σ.mem b=ab f/\f.aU=c/\f.buf=true/\f.val=.data (.slice e) l) \/
  ∃b c o n f,v=.part b c o n/\σ.mem b=ab f/\f.aU=c/\((f.buf=true/\∃j:List e.den,f.val=.data (.slice e) j/\l=sub j o n)\/(f.buf=false/\∃(k:Nat) (j:List e.den),f.val=.data (.arr k e) j/\l=sub j o n)):=by
 unfold jH at g;split at g
 .obtain⟨q,rfl⟩:=FO g
  grind
 .exact .inr (.inl ⟨rfl,(aQ g).symm⟩)
 .rename_i b c;split at g
  .rename_i f p;cases m:(Nat.beq f.aU c&&f.buf) with
   | false=>rw[m] at g;exact absurd g bb
   | true =>
     rw[m,zS] at g;simp only[gy] at m;split at g
     .rename_i u j h;obtain⟨q,rfl⟩:=FO g;subst q;exact .inr (.inr<|.inl ⟨b,c,f,rfl,p,iT m.1,m.2,h⟩)
     .grind
  .grind
 .rename_i b c o n;split at g
  .rename_i f p;cases m:Nat.beq f.aU c with
   | false=>rw[m] at g;exact absurd g bb
   | true =>
     rw[m] at g;split at g
     .rename_i u j i h;obtain⟨q,rfl⟩:=FO g;subst q;exact .inr (.inr<|.inr ⟨b,c,o,n,f,rfl,p,iT m,.inl ⟨i,j,h,rfl⟩⟩)
     .rename_i r u j i h;obtain⟨q,rfl⟩:=FO g;subst q;exact .inr (.inr<|.inr ⟨b,c,o,n,f,rfl,p,iT m,.inr ⟨i,r,j,h,rfl⟩⟩)
     .grind
  .grind
 .grind
def KK{α}{l:List α}{b n:Int}(c:0<=b)(e:0<=n)(f:b+n<=l.length):(sub l b n).length=n.toNat:=by
 simp only[sub,kC,pP];omega
def s9(M:bM B γ σ.mem w){e v val l}(O:cM γ σ.mem w v .val [val])(hl:jH e σ v=ab l):BV w γ.I e l val:=by
 rcases nX hl with rfl|⟨rfl,rfl⟩|⟨b,R,E,rfl,s,p,f,g⟩|⟨b,R,z,n,E,rfl,s,p,S⟩
 .obtain⟨cs,F,r⟩:=eE.1 O;rcases F with ⟨⟨o,F⟩,T⟩|⟨j,U,h,F,T,h3,h4⟩
  .exact .inl ⟨T,o,0,by rw[r,F];rfl,qK _,.inl rfl⟩
  .refine .inr ⟨j,U,h,by rw[r,F];rfl,T,h3,λi x A=>?_⟩
   grind
 .obtain rfl:val=_:=by simpa [cM] using O
  exact .inl ⟨rfl,ah,0,rfl,qK _,.inl rfl⟩
 .obtain⟨e',n',V,t,u⟩:=bA s p O.2;rw[Box.er V g] at t;obtain⟨rfl,rfl⟩:=cd (aQ t);rcases u with ⟨u,C⟩|⟨j,h,u,C⟩
  .obtain rfl:val=_:=by simpa using C
   have G:=M.boxes b E s;rw[fj,V] at G;obtain⟨e2,l2,W,j2,X⟩:=G;rw[g] at W;cases W;rcases X with ⟨_,j4⟩|⟨_,_,_,_,_,X,_⟩
   .exact .inl ⟨j4,ah,0,rfl,qK _,.inl rfl⟩
   .grind
  .obtain rfl:val=_:=by simpa using C
   obtain⟨H,tid,Y,J,Z,D,q4,q5,q6,K⟩:=((M.boxes b E s).row u).1 _ l V g;refine .inr ⟨j,0,h,rfl,D,q4,λi x A=>?_⟩;have:=Ab J ai K D 0 i x A
   grind
 .obtain⟨e',k,t,u,C,g5,o,h,g6,g7,Q,gF,q⟩:=bA s p O.2;obtain rfl:val=_:=by simpa using g6
  rcases S with ⟨f,L,g,rfl⟩|⟨f,k0,L,g,rfl⟩
  .rw[Box.er f g] at t;obtain⟨rfl,rfl⟩:=cd (aQ t);have hlen:=KK u C g5;rcases q with q|⟨j,c,q,y⟩
   .subst q;exact .inl ⟨by simp[sub],o,h,rfl,Q,gF.1⟩
   .obtain⟨H,tid,Y,J,Z,D,q4,q5,q6,K⟩:=((M.boxes b E s).row q).1 _ L f g;refine .inr ⟨j,z.toNat*e.size,h,by rw[y,hlen],by rw[hlen];exact g7,Q,λi x A=>?_⟩;have m:((List.drop z.toNat L).take n.toNat)[i]?=ab x:=A;rw[jP] at m;split at m
    .exact Ab J ai K D z.toNat i x m
    .grind
  .rw[Box.rN f g] at t;obtain⟨rfl,rfl⟩:=cd (aQ t);rcases q with q|⟨j,c,q,y⟩
   .subst q;exact .inl ⟨by simp[sub],o,h,rfl,Q,gF.1⟩
   .obtain⟨H,tid,Y,J,Z,D,q5,K⟩:=((M.boxes b E s).row q).2 _ _ L f g;have hlen:=KK u C (by rw[D];exact g5);refine .inr ⟨j,z.toNat*e.size,h,by rw[y,hlen],by rw[hlen];exact g7,Q,λi x A=>?_⟩;have m:((List.drop z.toNat L).take n.toNat)[i]?=ab x:=A;rw[jP] at m;split at m
    .exact Ab J (n:=k0) ai K ai z.toNat i x m
    .grind
def Ex{I e blk}:∀{l:List e.den} {off},(∀i x,l[i]?=ab x->∃f,f.length=e.size /\
   (∀j c,f[j]?=ab c->w.cell? ⟨blk,off+i*e.size+j,ah⟩=ab c)/\bY w I e x f) ->
  ∃b:List Value,b.length=l.length*e.size/\(∀j c,b[j]?=ab c->w.cell? ⟨blk,off+j,ah⟩=ab c)/\(∀c∈b,c.oneCell'=true) /\
   ∀i x,l[i]?=ab x->bY w I e x ((b.drop<|i*e.size).take e.size):=by
 intro l;induction l with
 | nil=>intro off h;exact⟨[],bb,bb,bb,bb⟩
 | cons m r n =>
   intro off h;obtain⟨f,s,t,o⟩:=h 0 m rfl;obtain⟨b,u,v,y,z⟩:=n (off:=off+e.size) λi x k=>by
    obtain⟨p,A,C,D⟩:=h (i+1) x (by simpa using k)
    grind
   refine⟨f++b,by rw[jB,jC,JL];omega,λj c q=>?_,λc g=>?_,λi x k=>?_⟩
   .rw[Rp] at q
    grind
   .rcases Rr.1 g with g|g
    .exact o.one c g
    .grind
   .cases i with
    | zero =>
      grind
    | succ i =>
      rw[JL,ZE,<-yy]
      grind
def FP(h:dJ B N γ σ a w){b g e n}(p:σ.mem b=ab g)(m:g.row=ab (e,n))(f:freeze σ b=ab aY) :
  ∃bJ,dJ B N bJ aY a w/\Ext B γ σ.mem w bJ aY.mem w/\bJ.loc=γ.loc/\∀i k j,γ.loc b=ab (i,k)->j<n*e.size->bJ.I i j:=by
 obtain⟨m1,q⟩:=h.ok.freeze p m;have r:aY={ br:=σ.br,mem:=dt σ.mem b { g with ro:=true } }:=by
  unfold freeze at f;rw[p] at f;cases l:g.ro with
  | true =>
    simp only[l,zS,Lf] at f;subst f;have:dt σ.mem b { g with ro:=true }=σ.mem:=by
     funext c;by_cases e:c=b
     .subst e;rw[bI,p];cases g;subst l;rfl
     .rw[bg _ e]
    rw[this]
  | false =>
    simp only[l] at f;cases o:g.lk with
    | true=>simp[o] at f
    | false=>simp only[o,Fu,Lf] at f;subst f;rfl
 subst r;exact⟨_,h.go q m1,q,rfl,λi k j s t=>.inr ⟨⟨k,s⟩,t⟩⟩
def BV.data{g:Gh}{e l val}(h:BV w γ.I e l val)(s:∀b o,γ.I b o->g.I b o)
  (t:∀f off cap,val=.slice (ab ⟨f,off,ah⟩) l.length cap->∀j,j<l.length*e.size->g.I f (off+j)):bY w g.I (.slice e) l [val]:=by
 rcases h with ⟨rfl,k,cap,m,p,q⟩|⟨f,off,cap,m,p,q,u⟩
 .rcases q with rfl|⟨f,off,rfl⟩
  .exact .inl ⟨⟨k,by rw[m]⟩,rfl⟩
  .exact .inr ⟨f,off,cap,by rw[m];rfl,qK _,p,λi x n=>by cases n⟩
 .refine .inr ⟨f,off,cap,by rw[m],p,q,λi x n=>?_⟩;obtain⟨es,v,y,z⟩:=u i x n;refine⟨es,v,λj c r=>⟨y j c r,?_⟩,bY.mono s (λ_ _ _=>rfl) z⟩;have A:j<e.size:=by have:=(hR.1 r).1;omega
  have:_*e.size<=l.length*e.size:=hS _ ((hR.1 n).1);rw[JL] at this;rw[Ft];exact t f off cap m _ ai
def FQ(h:dJ B N γ σ a w){e v val l}(t:cM γ σ.mem w v .val [val])(H:jH e σ v=ab l)(z:jq σ v=ab aY) :
  ∃bJ,dJ B N bJ aY a w/\Ext B γ σ.mem w bJ aY.mem w/\bY w bJ.I (.slice e) l [val]:=by
 have o:=s9 h.ok t H;rcases nX H with rfl|⟨rfl,rfl⟩|⟨b,A,J,rfl,q,m,f,i⟩|⟨b,A,V,n,J,rfl,q,m,C⟩
 .obtain rfl:=aQ z;obtain⟨W,K,g⟩:=eE.1 t;have:W=[val]:=by
   obtain⟨c,rfl⟩:=Zm.1 K.length;rw[g];rfl
  exact⟨γ,h,Ext.refl _ _ _ _,by rw[<-this];exact K⟩
 .obtain rfl:=aQ z;obtain rfl:val=_:=by simpa [cM] using t
  exact⟨γ,h,Ext.refl _ _ _ _,.inl ⟨⟨ah,rfl⟩,rfl⟩⟩
 .obtain⟨bJ,D,u,X,Y⟩:=FP h q (Box.er f i) z;refine⟨bJ,D,u,o.data u.I λx E F g j Z=>?_⟩;obtain⟨L,n',g1,r,G⟩:=bA q m t.2
  grind
 .obtain⟨L,k,r,G,M,O,Q,F,g6,g7,g8,gF,p⟩:=bA q m t.2;obtain rfl:val=_:=by simpa using g6
  have hlk:e=L/\l.length=n.toNat:=by
   rcases C with ⟨f,R,i,rfl⟩|⟨f,k0,R,i,rfl⟩
   .rw[Box.er f i] at r;obtain⟨rfl,rfl⟩:=cd (aQ r);exact⟨rfl,KK G M O⟩
   .rw[Box.rN f i] at r;obtain⟨rfl,rfl⟩:=cd (aQ r);rcases p with p|⟨x,c,p,y⟩
    .subst p;exact⟨rfl,by simp[sub]⟩
    .obtain⟨cur,tid,fr,s,q2,S,q5,q7⟩:=((h.ok.boxes b J q).row p).2 _ _ R f i;exact⟨rfl,KK G M (by rw[S];exact O)⟩
  obtain⟨bJ,D,u,X,Y⟩:=FP h q r z;refine⟨bJ,D,u,o.data u.I λx E T g j Z=>?_⟩;rcases p with p|⟨U,c,p,y⟩
  .grind
  .injection g with s q2 S
   rw[y] at s;injection s with s
   injection s with s q4
   have:(V.toNat+n.toNat)*e.size<=k*e.size:=hS _ ai
   grind
def DL{e v l b}(h:jH e σ v=ab l)(k:freeze σ b=ab aY):jH e aY v=ab l:=by
 have z:∀c j,σ.mem c=ab j->∃r,aY.mem c=ab { j with ro:=r }:=by
  intro c j q;unfold freeze at k;split at k
  .rename_i p t;cases m:p.ro with
   | true=>simp only[m,zS,Lf] at k;subst k;exact⟨j.ro,q⟩
   | false =>
     cases o:p.lk with
     | true=>simp[m,o] at k
     | false =>
       simp only[m,o,Fu,Lf] at k;subst k;by_cases e:c=b
       .subst e;rw[t] at q;obtain rfl:=aQ q;exact⟨true,by simp[St.cg,o]⟩
       .exact⟨j.ro,by simp[St.cg,ko e,q]⟩
  .cases k
 rcases nX h with rfl|⟨rfl,rfl⟩|⟨c,u,j,rfl,x,g,f,i⟩|⟨c,u,C,n,j,rfl,x,g,y⟩
 .exact h
 .rfl
 .obtain⟨r,s⟩:=z c j x;simp only[jH,s,g,f,i,adE];simp[toL,Ty.beq_refl]
 .obtain⟨r,s⟩:=z c j x;rcases y with ⟨f,A,i,rfl⟩|⟨f,D,A,i,rfl⟩
  .simp only[jH,s,g,f,i,adE,zS];simp[toL,Ty.beq_refl]
  .simp only[jH,s,g,f,i];simp[toL,Ty.beq_refl]
def FR{s r p q x}(h:sH σ (.pair s r) (.mix p q)=ab x):∃(y:s.den) (z:r.den),sH σ s p=ab y/\sH σ r q=ab z/\x=(y,z):=by
 replace h:(match sH σ s p,sH σ r q with
  | some x,ab y=>ab _
  | _,_=>ah)=ab x:=h
 grind
def Qc{s r p q y z}(b:sH σ s p=ab y)(c:sH σ r q=ab z):sH σ (.pair s r) (.mix p q)=ab ((y,z):(Ty.pair s r).den):=by
 show(match sH σ s p,sH σ r q with
  | some x,ab y=>ab _
  | _,_=>ah)=ab _
 grind
def xT{p q}(h:jq σ (.mix p q)=ab aY):∃b5,jq σ p=ab b5/\jq b5 q=ab aY:=by
 unfold jq at h
 grind
def qW{t}:∀{x},sH σ t .uz=ab x->(∀w I,bY w I t x [.nilIface])/\(∀τ,sH τ t .uz=ab x)/\cY t [.nilIface]=.nilIface/\t.isAgg=false:=by
 induction t with
 | alt u a r g c =>
   intro x h;have h:(match sH σ r .uz with|some x=>ab (Sum.inr x)|none=>ah)=ab x:=h;cases f:sH σ r .uz with
   | none=>rw[f] at h;cases h
   | some y =>
     rw[f] at h;obtain rfl:=aQ h;obtain⟨i,l,j,k⟩:=c f;refine⟨λw I=>i w I,λτ=>?_,j,k⟩;show(match sH τ r .uz with|some x=>ab _|none=>ah)=_
     grind
 | Bz=>intro x h;exact⟨λw I=>rfl,λτ=>rfl,rfl,rfl⟩
 | slice e=>intro x h;cases h
 | pair a b=>intro x h;cases h
 | _=>intro x h;cases h
def Um:∀{v t x σ aY u},sH σ t v=ab x->jq σ u=ab aY->sH aY t v=ab x:=by
 have one:∀{u e v l σ aY},jH e σ v=ab l->jq σ u=ab aY->jH e aY v=ab l:=by
  intro u;induction u with
  | mix p q f g =>
    intro e v l σ aY h c;simp only[jq] at c
    grind
  | whole b aU=>intro e v l σ aY h c;exact DL h c
  | part b aU lo n=>intro e v l σ aY h c;exact DL h c
  | _=>intro e v l σ aY h c;obtain rfl:=aQ c;exact h
 intro v;induction v with
 | data u y =>
   intro t x σ aY u h c;cases t with
   | slice e=>exact one h c
   | _=>exact h
 | mix p q f g =>
   intro t x σ aY u h c;cases t with
   | pair s r =>
     obtain⟨y,z,i,j,rfl⟩:=FR h;exact Qc (f i c) (g j c)
   | slice e=>exact one h c
   | _=>cases h
 | uz=>intro t x σ aY u h c;exact(qW h).2.1 _
 | _ =>
   intro t x σ aY u h c;cases t with
   | slice e=>exact one h c
   | _=>cases h
def IX{γ mem v cs}(h:cM γ mem w v .cells cs)(b:ek v=1):∃c,cs=[c]:=by
 have:=h.length;rw[b] at this;exact Zm.1 this
def Xe:∀{v t x cs σ aY γ a},dJ B N γ σ a w->cM γ σ.mem w v .cells cs->sH σ t v=ab x->jq σ v=ab aY ->
  ∃bJ,dJ B N bJ aY a w/\Ext B γ σ.mem w bJ aY.mem w/\bY w bJ.I t x cs:=by
 have A:∀{v e l cs σ aY γ a},ek v=1->(∀c,cM γ σ.mem w v .cells [c]->cM γ σ.mem w v .val [c])->dJ B N γ σ a w->cM γ σ.mem w v .cells cs->jH e σ v=ab l->jq σ v=ab aY ->
   ∃bJ,dJ B N bJ aY a w/\Ext B γ σ.mem w bJ aY.mem w/\bY w bJ.I (.slice e) l cs:=by
  intro v e l cs σ aY γ a C m h i f j;obtain⟨c,rfl⟩:=IX i C;exact FQ h (m c i) f j
 intro v;induction v with
 | data u y =>
   intro t x cs σ aY γ a h i f j;obtain rfl:=aQ j;have key:(∃q:u=t,x=q▸y):=by
    cases t with
    | slice e =>
      rcases nX f with g|⟨g,_⟩|⟨_,_,_,g,_⟩|⟨_,_,_,_,_,g,_⟩
      .injection g with L M;subst L;exact⟨rfl,(eq_of_heq M).symm⟩
      .cases g
      .cases g
      .cases g
    | _=>exact Ty.lX f
   obtain⟨q,D⟩:=key;subst q;subst D;exact⟨γ,h,Ext.refl _ _ _ _,i⟩
 | mix p q E F =>
   intro t x cs σ aY γ a h i f j;cases t with
   | pair s r =>
     obtain⟨O,Q,rfl,C,R⟩:=i;obtain⟨y,z,S,D,rfl⟩:=FR f;obtain⟨b5,o,G⟩:=xT j;obtain⟨T,U,K,V⟩:=E h C S o;obtain⟨H,W,J,X⟩:=F U (R.ext K) (Um D o) G;exact⟨H,W,K.trans J,O,Q,rfl,bY.mono J.I J.cells V,X⟩
   | slice e=>exact absurd f cl
   | _=>cases f
 | pQ =>
   intro t x cs σ aY γ a h i f j;cases t with
   | slice e=>exact A (v:=.pQ) rfl (λc k=>k) h i f j
   | _=>cases f
 | whole b aU =>
   intro t x cs σ aY γ a h i f j;cases t with
   | slice e=>exact A (v:=.whole b aU) rfl (λc k=>k) h i f j
   | _=>cases f
 | part b aU lo n =>
   intro t x cs σ aY γ a h i f j;cases t with
   | slice e=>exact A (v:=.part b aU lo n) rfl (λc k=>k) h i f j
   | _=>cases f
 | uz =>
   intro t x cs σ aY γ a h i f j;obtain rfl:=aQ j;obtain rfl:cs=[.nilIface]:=i;exact⟨γ,h,Ext.refl ..,(qW f).1 _ _⟩
 | _ =>
   intro t x cs σ aY γ a h i f j;cases t with
   | slice e=>exact absurd f cl
   | _=>cases f
def nY{t x v val}(h:dJ B N γ σ a w)(f:cM γ σ.mem w v .val [val])(g:BM σ t v=ab (x,aY)) :
  ∃bJ,dJ B N bJ aY a w/\Ext B γ σ.mem w bJ aY.mem w/\cM bJ aY.mem w (.data t x) .val [val]:=by
 unfold BM at g;split at g
 .rename_i u y;split at g
  .rename_i H o;obtain⟨rfl,rfl⟩:=cd (aQ g);obtain⟨q,z⟩:=Ty.lX o;subst q;subst z;exact⟨γ,h,Ext.refl _ _ _ _,f⟩
  .cases g
 .split at g
  .rename_i y b5 c l;obtain⟨rfl,rfl⟩:=cd (aQ g);cases v with
   | data u A=>rename_i m;exact absurd rfl (m u A)
   | mix p q =>
     obtain⟨C,D,E,F,G⟩:=f;obtain rfl:val=_:=by simpa using E
     obtain⟨bJ,i,j,k⟩:=Xe h (show cM γ σ.mem w (.mix p q) .cells _ from⟨C,D,rfl,F,G⟩) c l;refine⟨bJ,i,j,_,k,?_⟩;cases t with
     | pair s r=>rfl
     | slice e=>exact absurd c cl
     | _=>cases c
   | pQ =>
     cases t with
     | slice e=>obtain⟨bJ,i,j,k⟩:=FQ h f c l;exact⟨bJ,i,j,_,k,rfl⟩
     | _=>cases c
   | whole b aU =>
     cases t with
     | slice e=>obtain⟨bJ,i,j,k⟩:=FQ h f c l;exact⟨bJ,i,j,_,k,rfl⟩
     | _=>cases c
   | part b aU lo n =>
     cases t with
     | slice e=>obtain⟨bJ,i,j,k⟩:=FQ h f c l;exact⟨bJ,i,j,_,k,rfl⟩
     | _=>cases c
   | uz =>
     obtain rfl:=aQ l;obtain f:[val]=[Value.nilIface]:=f;obtain rfl:val=.nilIface:=by simpa using f
     exact⟨γ,h,Ext.refl ..,[.nilIface],(qW c).1 _ _,by rw[(qW c).2.2.1]⟩
   | _ =>
     cases t with
     | slice e=>exact absurd c cl
     | _=>cases c
  .cases g
end
end Go.Ge
namespace Go.Ge
open RowKit
section
variable {P:Program} {B:BA} {N:Nat} {γ:Gh} {σ aY:St} {a:Act} {w:World} {d:Option Nat} {cx:Ctx}
def Xf{b:Box}{k c v f}(l:b.buf=false)(m:b.val=v)(h:(Ls v k f).run=ab c):({ b with val:=c }:Box).row=b.row:=by
 obtain⟨i,tid,o,s,u,r⟩:=b;subst l;subst m;cases i with
 | data t x =>
   obtain⟨y,j,g⟩:=bind_some h;obtain rfl:=aQ g;cases t with
   | arr n e=>cases k<;>exact absurd j cl
   | _=>rfl
 | mix p q =>
   cases k with
   | zero =>
     obtain⟨y,j,g⟩:=bind_some h;obtain rfl:=aQ g;rfl
   | succ k =>
     obtain⟨y,j,g⟩:=bind_some h;obtain rfl:=aQ g;rfl
 | _=>exact absurd h cl
def agI{bx:Box}{e:Ty}{l:List e.den}{i y}(b:bx.buf=true)(c:bx.val=.data (.slice e) l):({ bx with val:=.data (.slice e) (lP l i y) }:Box).row=bx.row:=by
 rw[Box.er b c,Box.er (bx:={ bx with val:=.data (.slice e) (lP l i y) }) b rfl];simp[lP]
def IY{f:Box}{p v c}(h:(Rt f.buf p f.val v).run=ab c)(o:p=[]->f.buf=false->({ f with val:=v }:Box).row=f.row) :
  ({ f with val:=c }:Box).row=f.row:=by
 unfold Rt at h;split at h
 .rename_i b;cases p with
  | nil=>obtain rfl:=aQ h;exact o rfl b
  | cons s p =>
    cases s with
    | gz k off=>exact Xf b rfl h
    | idx i size =>
      simp only[zT] at h;split at h
      .rename_i n e l j;obtain⟨x,q,m⟩:=cm h;obtain⟨z,r,g⟩:=bind_some m;split at g
       .obtain rfl:=aQ g;rw[Box.rN b j];exact Box.rN b rfl
       .exact absurd g cl
      .exact absurd h cl
 .rename_i b;split at h
  .rename_i i size p e l j;obtain⟨x,q,m⟩:=cm h;obtain⟨z,r,g⟩:=bind_some m;split at g
   .obtain rfl:=aQ g;exact agI b j
   .exact absurd g cl
  .exact absurd h cl
def DM(h:dJ B N γ σ a w){b aU p fit u es}(H:(storeAt b aU p fit u σ).run=ab aY)(hu:cM γ σ.mem w u .cells es)
  (L:∀A,fit A=true->es.length=ek A) (ad4:∀C:Box,fit C.val=true->C.buf=false->({ C with val:=u }:Box).row=C.row)
  {blk cap} (J:γ.loc b=ab (blk,cap)) :
  ∃w',(storeCells ⟨blk,eC p,ah⟩ es).run P w=.ok () w'/\dJ B N γ aY a w'/\Ext B γ σ.mem w γ aY.mem w':=by
 unfold storeAt at H;split at H
 case h_2=>exact absurd H cl
 rename_i C hb;obtain⟨hc,hr2⟩:=aI H;simp at hc;obtain⟨⟨aoc,hlk⟩,M⟩:=hc;obtain⟨A,r,hr3⟩:=bind_some hr2;obtain⟨O,hr4⟩:=aI hr3;obtain⟨c,K,hr5⟩:=bind_some hr4;obtain rfl:=aQ hr5;have D:=L A O;have Q:=IY K λhp g=>by
  subst hp;rw[g] at r;obtain rfl:=aQ r
  grind
 have m:=h.ok.boxes b C hb;unfold fj at m;have hbb:C.buf=false\/C.buf=true:=by cases C.buf<;>simp
 rcases hbb with g|g
 .rw[g] at m r K;obtain⟨R,S,f,tid,T,h1,h2,F,n,U⟩:=m;rw[J] at h1;obtain⟨rfl,rfl⟩:=cd (aQ h1);obtain⟨k1,k2⟩:=xS U r;have o:eC p+es.length<=f.toList.length:=by rw[D];exact k1
  have V:(bh f.toList (eC p) es).toArray.size=f.size:=by have:=bT o;simpa using this
  obtain⟨m1,W⟩:=h.ok.write hb M J h2 (cur':=(bh f.toList _ es).toArray) V Q
   (λw' cT t hg=>by
    simp only[g];exact⟨blk,cap,_,tid,T,J,hg,F.same V,n,by simpa using z7 (U.ext t) r K (hu.ext t) D⟩)
  exact⟨_,(dx (P:=P) blk _ tid T es 0 f w h2 F (by simpa using o) λv hv=>hu.one v hv),h.go W m1,W⟩
 .rw[g] at m r K;obtain⟨e,l,h1,h2,F⟩:=m;rw[h1] at r K;rcases F with ⟨F,_⟩|⟨R,S,f,tid,T,F,U,h5,n,h6,h7,h8,h9⟩
  .grind
  .rw[J] at F;obtain⟨rfl,rfl⟩:=cd (aQ F);cases p with
   | nil=>cases r
   | cons s p =>
     cases s with
     | gz k off=>cases r
     | idx i size =>
       obtain⟨hsb,hn2⟩:=aI r;obtain⟨x,t,X⟩:=cm hn2;obtain⟨x',hx',hs2⟩:=cm K;obtain rfl:x=x':=aQ (t.symm.trans hx');obtain⟨z,hq,E⟩:=bind_some hs2;cases hz:toS e z with
       | none=>rw[hz] at E;cases E
       | some y =>
         rw[hz] at E;obtain rfl:=aQ E;obtain⟨h0,Y⟩:=uA t;have H:=h9 _ x Y;have hi:=(hR.1 Y).1;have hm2:(i.toNat+1)*e.size<=cap*e.size:=hS _ ai;rw[JL] at hm2;have Z:cM γ σ.mem w (.data e x) .cells _:=H;obtain⟨k1,k2⟩:=xS Z X;rw[H.length] at k1;have hcs:f.toList.length=cap*e.size:=by simpa using h8
         have G:eC (.idx i size::p)=i.toNat*e.size+eC p:=by simp only[eC,(iT hsb)]
         have o:eC (.idx i size::p)+es.length<=f.toList.length:=by rw[G];omega
         have q:(bh f.toList (eC (.idx i size::p)) es).toArray.size=f.size:=by have:=bT o;simpa using this
         obtain⟨m1,W⟩:=h.ok.write hb M J U (cur':=(bh f.toList _ es).toArray) q Q
          (λw' cT t hg=>by
           simp only[g];refine⟨e,_,rfl,h2,.inr ⟨blk,cap,_,tid,T,J,hg,h5.same q,n,iU (DI adv) h6,h7,by rw[q];exact h8,?_⟩⟩
           .have hzz:=KJ hz (z7 (Z.ext t) X hq (hu.ext t) D);have:=LI rfl (by rw[hcs];exact hS _ h6)
             (λj x hj=>bY.mono t.I t.cells (h9 j x hj)) hi hzz
            rw[(tI f.toList _ _ e.size es (by rw[D];exact k1) ai),<-G] at this;exact this)
         exact⟨_,(dx blk _ tid T es 0 f w U h5.th (by simpa using o) λv hv=>hu.one v hv),h.go W m1,W⟩
def aa2{mem}:∀{t x cs},bY w γ.I t x cs->cM γ mem w (adM t x) .cells cs:=by
 intro t;induction t with
 | pair a b f c=>intro x cs h;obtain⟨g,i,e,j,k⟩:=h;exact⟨g,i,e,j,c k⟩
 | _=>intro x cs h;exact h
def Qd{mem v cs}(h:cM γ mem w v .cells cs):cM γ mem w (adN v) .cells cs:=by
 cases v with
 | data t x=>exact aa2 h
 | _=>exact h
def Un{bx:Box}(e:bx.buf=false)(c:adQ bx.val=true):bx.row=none:=by
 unfold Box.row;rw[e];obtain⟨b,tid,f,h,i,g⟩:=bx;cases b with
 | data t x=>cases t<;>first|rfl|cases c
 | mix p q=>rfl
 | _=>cases c
def Ox(h:dJ B N γ σ a w){b aU p n u es}(q:(tD b aU p n u σ).run=ab aY)(E:cM γ σ.mem w u .cells es)
  (i:es.length=n) {blk cap} (r:γ.loc b=ab (blk,cap)) :
  ∃w',(storeCells ⟨blk,eC p,ah⟩ es).run P w=.ok () w'/\dJ B N γ aY a w'/\Ext B γ σ.mem w γ aY.mem w':=by
 unfold tD at q;split at q
 case h_2=>exact absurd q cl
 rename_i bx F;obtain⟨G,s⟩:=aI q;simp at G;obtain⟨⟨⟨⟨H,U⟩,t⟩,e⟩,x⟩:=G;obtain⟨V,I,y⟩:=bind_some s;obtain⟨j,z⟩:=aI y;obtain⟨c,W,A⟩:=bind_some z;obtain⟨C,D⟩:=aI A;obtain rfl:=aQ D;have k:=i.trans (iT j).symm;have g:=h.ok.boxes b bx F;unfold fj at g;rw[e] at g;obtain⟨J,K,f,tid,L,M,O,Q,l,R⟩:=g;rw[r] at M;obtain⟨rfl,rfl⟩:=cd (aQ M);obtain⟨X,k2⟩:=xS (Qd R) I;have m:eC p+es.length<=f.toList.length:=by rw[k];exact X
 have o:(bh f.toList (eC p) es).toArray.size=f.size:=by have:=bT m;simpa using this
 obtain⟨m1,S⟩:=h.ok.write F t r O (cur':=(bh f.toList _ es).toArray) o ((Un (bx:={ bx with val:=c }) e C).trans (Un e x).symm)
  (λw' cT T Y=>by
   simp only[e];exact⟨blk,cap,_,tid,L,r,Y,Q.same o,l,by simpa using z7 (Qd<|R.ext T) I W (E.ext T) k⟩)
 exact⟨_,(dx blk _ tid L es 0 f w O Q (by simpa using m) λv Z=>E.one v Z),h.go S m1,S⟩
def BW{ty blk off n v w'}(b:(Go.sizeOf ty).run P w=.ok n w)(e:v.cells.toList.length=n)(c:(storeCells ⟨blk,off,ah⟩ v.cells.toList).run P w=.ok () w') :
  (Instr.storeAt ty (.pointer<|some ⟨blk,off,ah⟩) v).run P w=.ok () w':=by
 simp only[Instr.storeAt,Instr.sureAddr,storeVar,Sem.run_bind,Sem.run_pure,Result.andThen_ok,b]
 grind
def JS(D:fS P cx){bf ty x y}(h:dJ B N γ σ a w)(E:(mV cx bf ty (dw σ x) (dw σ y) σ).run=ab aY) :
  ∃w' bJ,(Instr.storeAt ty (a.eval x)<|a.eval y).run P w=.ok () w'/\dJ B N bJ aY a w'/\Ext B γ σ.mem w bJ aY.mem w':=by
 have hv:=h.dw x;have hy:=h.dw y;unfold mV at E;split at E
 case h_2=>exact absurd E cl
 rename_i b aU p hx;rw[hx] at hv;split at E
 case h_2=>exact absurd E cl
 rename_i o Z;obtain⟨F,M⟩:=aI E;obtain⟨s,hn,A⟩:=bind_some M;obtain⟨O,Q,hl,l⟩:=bA Z (iT F) hv.2;obtain l:a.eval x=_:=by simpa using l
 rw[l];split at A
 .rename_i u z;obtain⟨r,f⟩:=aI A;have r:=jI r;have hD:=D.T _ _ r;cases R:dA bf 8000000&&adP u _ with
  | true =>
    rw[R] at f;have how:=(Bool.and_eq_true_iff.1 R).2;have m:cM γ σ.mem w (dw σ y) .cells (a.eval y).cells.toList:=by
     refine hy.oL (λu' e=>?_) (λe=>?_)
     .rw[e] at how;cases how
     .rw[e] at how;cases how
    have C:ek (dw σ y)=u.size:=by
     unfold adP at how;split at how
     .rename_i e;rw[e];exact aaZ how
     .rename_i e;rw[e];exact LO how
     .grind
    have c:(a.eval y).cells.toList.length=u.size:=by rw[m.length,C]
    obtain⟨w',K,G,H⟩:=Ox h f m c hl;exact⟨w',γ,BW (hD.sizeOf w) c K,G,H⟩
  | false =>
  rw[R] at f;split at f
  .rename_i y0 b5 hg;obtain⟨I,s1,s2,s3⟩:=nY h hy hg;obtain⟨cs,L,c2⟩:=s3;obtain S:a.eval y=_:=by simpa using c2
   have U:(a.eval y).cells.toList=cs:=by rw[S];exact tH L
   obtain⟨V,g1,g2,g3⟩:=s2.boxes b o Z;have W:I.loc b=ab (O,Q):=by
    have hv':V.aU=o.aU:=by
     unfold storeAt at f;split at f
     .rename_i bx2 hb2;obtain⟨D,_⟩:=aI f;simp_all
     .grind
    grind
   obtain⟨w',K,G,H⟩:=DM (P:=P) s1 f L (λs g=>by
    unfold aiG at g;split at g
    .rename_i t q;obtain rfl:=Ty.eq_of_beq g;exact L.length
    .cases g) (λo g i=>by
    unfold aiG at g;split at g
    .rename_i t q J;obtain rfl:=Ty.eq_of_beq g;cases t with
     | arr n e=>rw[Box.rN i J];exact Box.rN i rfl
     | _=>unfold Box.row;rw[i,J]
    .cases g) W
   refine⟨w',I,BW (hD.sizeOf w) ?_ ?_,G,s2.trans H⟩
   .rw[U];exact L.length
   .grind
  .exact absurd f cl
 .obtain⟨r,f⟩:=aI A;simp at r;obtain⟨X,k⟩:=r;have key:∀{v},zU cx ty v=true->isRef v=true->ek v=1/\(Go.sizeOf ty).run P w=.ok 1 w:=by
   intro v j Y;unfold zU at j;split at j
   .cases Y
   .split at j
    .rename_i e r;exact⟨rfl,(D.T _ _ r).sizeOf w⟩
    .cases j
   .exact⟨rfl,(D.rv _ j).2.1 w⟩
   .exact⟨rfl,(D.rv _ j).2.1 w⟩
   .exact⟨rfl,(D.rv _ j).2.1 w⟩
   .cases j
  obtain⟨j,C⟩:=key X k;have m:cM γ σ.mem w (dw σ y) .cells (a.eval y).cells.toList:=by
   refine hy.oL (λu e=>?_) (λe=>?_)
   .rw[e] at k;cases k
   .rw[e] at k;cases k
  have c:(a.eval y).cells.toList.length=1:=by rw[m.length,j]
  obtain⟨w',K,G,H⟩:=DM h f m (λs g=>by
   simp at g;rcases g with g|g
   .rw[c,(key g.1 g.2).1]
   .rw[c];cases s<;>first|rfl|cases g) (λo g i=>by
   simp at g;have e1:∀{v} {o:Box},(isRef v=true\/ZI v=true)->o.buf=false->o.val=v->o.row=none:=by
    intro v o j Y h3;unfold Box.row;rw[Y,h3];cases v<;>first|rfl|(rcases j with j|j<;>cases j)
   rw[e1 (g.elim (λq=>.inl q.2) .inr) i rfl];exact e1 (.inl k) i rfl) hl
  exact⟨w',γ,BW C c K,G,H⟩
def tc t v:(newVar t v).run P w=.ok ⟨w.heap.size,0,ah⟩ (w.alloc<|.cells v.cells t):=by
 simp[newVar,newRow]
def CY{mem w' b c cap}:cM (bU γ b<|some (w.heap.size,cap)) (dt mem b c) w' (.ptr b c.aU []) .val [.pointer<|some ⟨w.heap.size,0,ah⟩] :=
 ⟨⟨_,rfl,rfl⟩,gO (bI _ _) rfl ⟨w.heap.size,cap,by simp[bU],rfl⟩⟩
def Uo(j:fS P cx){b:TypeId}{nb k t}(h:dJ B N γ σ a w)(l:k<N)(m:find cx.T b=ab t)
  (n:(σ.bF (nb+k) (.data t t.zero) 0 false λc σ=>.ret (σ.put k<|.ptr (nb+k) c [])).run=ab aY) :
  oM P B N γ σ a w (ab k) (Instr.alloc b true<|.tuple #[]) aY:=by
 obtain⟨c,e,f⟩:=ev n;obtain rfl:=aQ f;obtain⟨z,o,g⟩:=(j.T _ _ m).zero w;obtain⟨m1,i⟩:=h.ok.newVar (v:=.data t t.zero) e b (.inl rfl) (by rw[g];exact oK w γ.I t);refine⟨.pointer _,_,_,?_,h.step i m1 l CY,i⟩;simp only[Instr.alloc,Sem.run_bind,o,Result.andThen_ok,tc,Sem.run_pure]
def JT(j:fS P cx){b:TypeId}{nb k}(h:dJ B N γ σ a w)(l:k<N)(m:dA cx.rv b=true)
  (n:(σ.bF (nb+k) .undef 0 false λe σ=>.ret (σ.put k<|.ptr (nb+k) e [])).run=ab aY) :
  oM P B N γ σ a w (ab k) (Instr.alloc b true<|.tuple #[]) aY:=by
 obtain⟨e,f,g⟩:=ev n;obtain rfl:=aQ g;obtain⟨z,o,c⟩:=(j.rv _ m).2.2;obtain⟨m1,i⟩:=h.ok.newVar (v:=.undef) f (cs:=z.cells) b (.inl rfl) ⟨z,by cases z<;>first|rfl|(simp[Value.oneCell'] at c),c⟩;refine⟨.pointer _,_,_,?_,h.step i m1 l CY,i⟩;simp only[Instr.alloc,Sem.run_bind,o,Result.andThen_ok,tc,Sem.run_pure]
def Up{b aU}:∀{A j σ γ r},bM B γ σ.mem w->(mkObj b aU A j σ).run=ab r ->
  ∃c,bM B c r.2.mem w/\Ext B γ σ.mem w c r.2.mem w/\r.2.br=σ.br /\
   ∀bJ cT w',Ext B c r.2.mem w bJ cT w'->(∃bx l m,cT b=ab bx/\aU<=bx.aU/\bJ.loc b=ab (l,m))->cM bJ cT w' r.1 .cells (LF A):=by
 intro A;induction A with
 | nil=>intro j σ γ r h x;obtain rfl:=aQ x;exact⟨γ,h,Ext.refl _ _ _ _,rfl,λ_ _ _ _ _=>rfl⟩
 | cons f r C =>
   intro j σ γ q h x;cases f with
   | dat t =>
     obtain⟨y,n,o⟩:=bind_some x;obtain rfl:=aQ o;obtain⟨c,p,g,s,u⟩:=C h n;exact⟨c,p,g,s,λbJ cT w' i k=>⟨_,_,rfl,oK _ _ t,u bJ cT w' i k⟩⟩
   | one =>
     obtain⟨y,n,o⟩:=bind_some x;obtain rfl:=aQ o;obtain⟨c,p,g,s,u⟩:=C h n;exact⟨c,p,g,s,λbJ cT w' i k=>⟨[.pointer ah],_,rfl,rfl,u bJ cT w' i k⟩⟩
   | self =>
     obtain⟨y,n,o⟩:=bind_some x;obtain rfl:=aQ o;obtain⟨c,p,g,s,u⟩:=C h n;refine⟨c,p,g,s,λbJ cT w' i k=>⟨[.pointer ah],_,rfl,?_,u bJ cT w' i k⟩⟩;obtain⟨bx,l,m,G,H,I⟩:=k;exact⟨⟨_,rfl,rfl⟩,bx,G,H,λ_=>⟨l,m,I,.inl rfl⟩⟩
   | buf e J =>
     obtain⟨K,D⟩:=aI x;have E:0<e.size:=by simpa using K
     obtain⟨v,z,F⟩:=ev D;obtain⟨y,n,o⟩:=bind_some F;obtain rfl:=aQ o;obtain⟨m1,L⟩:=h.LK z E;obtain⟨c,p,g,s,u⟩:=C m1 n;refine⟨c,p,L.trans g,s,λbJ cT w' i k=>⟨[.slice ah 0 0],_,rfl,?_,u bJ cT w' i k⟩⟩;refine cM.ext (g.trans i) ?_;exact⟨⟨_,rfl,rfl⟩,gO (bI _ _) rfl ⟨e,0,rfl,rfl,.inl ⟨by simp[bU],rfl⟩⟩⟩
def JU(s:fS P cx){b:TypeId}{nb k p}(h:dJ B N γ σ a w)(t:k<N)(u:find cx.sG b=ab p)
  (v:((mkObj (nb+k) (KD σ<|nb+k) p 0 σ).bind λr=>r.2.bF (nb+k) r.1 b false λaU σ=>.ret (σ.put k<|.ptr (nb+k) aU [])).run=ab aY) :
  oM P B N γ σ a w (ab k) (Instr.alloc b true<|.tuple #[]) aY:=by
 obtain⟨r,x,y⟩:=bind_some v;obtain⟨f,g,i,A,C⟩:=Up h.ok x;obtain⟨aU,c,j⟩:=ev y;obtain rfl:=aQ j;obtain⟨z,D,l⟩:=aaU (s.sG _ _ u) w;have m:KD σ (nb+k)<=aU:=by
  unfold KD;split
  .rename_i bx n;obtain⟨E,G,H,_⟩:=i.boxes _ bx n
   grind
  .grind
 let bx:Box:={ val:=r.1,tid:=b,buf:=false,ro:=false,lk:=false,aU }
 have q:wE B w (w.alloc<|.cells z.cells b):=(wE.refl _ _).alloc g.base _;have hx:=vO (L:=ab (w.heap.size,0)) g (bx:=bx) c q (db w _);have o:fj (bU f (nb+k)<|some (w.heap.size,0)) _ _ (nb+k) bx :=
  ⟨w.heap.size,0,z.cells,b,_,by simp[bU],heap_alloc_new w _,uB _,.inr rfl,by
   rw[l];exact C _ _ _ hx ⟨bx,w.heap.size,0,bI _ _,m,by simp[bU]⟩⟩
 refine⟨.pointer<|some ⟨w.heap.size,0,ah⟩,_,_,?_,?_,i.trans hx⟩
 .simp only[Instr.alloc,Sem.run_bind,D,Result.andThen_ok,tc,Sem.run_pure]
 .have:=h.step (i.trans hx) (g.add c q (db w _) (λF k e=>by obtain⟨rfl,rfl⟩:=cd (aQ e);exact⟨cp _,bb⟩) o) t (CY);rw[<-A] at this;exact this
def IZ{b j v σ r}(c:(rE b [] j v σ).run=ab r):r=(v,σ):=by
 cases v with
 | data t x=>cases t<;>first|(obtain rfl:=aQ c;rfl)|cases c
 | _=>cases c
def FT{b j f q v σ r}(c:(rE b (f::q) j v σ).run=ab r) :
  (∃x u y,v=.mix x u/\(rE b q (j+1) u σ).run=ab y/\r=(.mix x y.1,y.2)) \/
  (∃e g u,v=.mix .pQ u/\0<e.size/\(σ.bF (b*1000+999-j) (.data (.slice e) []) g true λh σ=>(rE b q (j+1) u σ).bind λx=>.ret (.mix (.whole (b*1000+999-j) h) x.1,x.2)).run=ab r):=by
 cases v with
 | mix a u =>
   cases f with
   | dat t =>
     cases a with
     | data n z =>
       obtain⟨y,i,k⟩:=bind_some c;exact .inl ⟨_,u,y,rfl,i,(aQ k).symm⟩
     | _=>cases c
   | one =>
     cases a with
     | uy =>
       obtain⟨y,i,k⟩:=bind_some c;exact .inl ⟨_,u,y,rfl,i,(aQ k).symm⟩
     | _=>cases c
   | buf e g =>
     cases a with
     | pQ =>
       obtain⟨m,l⟩:=aI c;exact .inr ⟨e,g,u,rfl,by simpa using m,l⟩
     | _=>cases c
   | self=>cases a<;>cases c
 | _=>cases f<;>cases c
def JV(p:fS P cx){b:TypeId}{nb k bf t}(h:dJ B N γ σ a w)(q:k<N)(r:find cx.T b=ab t)
  (j:(wC nb bf k t σ).run=ab aY):oM P B N γ σ a w (ab k) (Instr.alloc b true<|.tuple #[]) aY:=by
 unfold wC at j;split at j
 .rename_i e _;obtain⟨x,l⟩:=aI j;have m:0<e.size:=by simpa using x
  obtain⟨v,f,n⟩:=ev l;obtain⟨m1,s⟩:=h.ok.LK (tid:=0) f m;obtain⟨y,c,o⟩:=ev n;obtain rfl:=aQ o;obtain⟨i,z,A,G,C,D⟩:=(p.T _ _ r).info;have E:(zeroValue b).run P w=.ok z w:=by simp[zeroValue,typeInfo,A,C]
  have g:cM (bU γ ((nb+k)*1000+999) ah) (dt σ.mem ((nb+k)*1000+999) { val:=.data (.slice e) ([]),tid:=0,buf:=true,ro:=false,lk:=false,aU:=v }) w (.whole ((nb+k)*1000+999) v) .cells z.cells.toList:=by
   rw[D];exact⟨⟨_,rfl,rfl⟩,gO (bI _ _) rfl ⟨e,0,rfl,rfl,.inl ⟨by simp[bU],rfl⟩⟩⟩
  obtain⟨F,u⟩:=m1.newVar c b (.inl rfl) g;refine⟨.pointer _,_,_,?_,h.step (s.trans u) F q CY,s.trans u⟩;simp only[Instr.alloc,Sem.run_bind,E,Result.andThen_ok,tc,Sem.run_pure]
 .exact Uo p h q r j
def Oy{b}:∀{m j v σ γ r cs},bM B γ σ.mem w->cM γ σ.mem w v .cells cs->(rE b m j v σ).run=ab r ->
  ∃c,bM B c r.2.mem w/\Ext B γ σ.mem w c r.2.mem w/\r.2.br=σ.br/\cM c r.2.mem w r.1 .cells cs:=by
 intro m;induction m with
 | nil =>
   intro j v σ γ r cs h l n;obtain rfl:=IZ n;exact⟨γ,h,Ext.refl _ _ _ _,rfl,l⟩
 | cons f q G =>
   intro j v σ γ r cs h l n;rcases FT n with ⟨x,u,y,rfl,o,rfl⟩|⟨e,I,u,rfl,J,p⟩
   .obtain⟨s,t,rfl,z,A⟩:=l;obtain⟨c,C,g,D,E⟩:=G h A o;exact⟨c,C,g,D,s,t,rfl,z.ext g,E⟩
   .obtain⟨k,i,F⟩:=ev p;obtain⟨y,o,K⟩:=bind_some F;obtain rfl:=aQ K;obtain⟨s,t,rfl,z,A⟩:=l;obtain⟨m1,H⟩:=h.LK i J;obtain⟨c,C,g,D,E⟩:=G m1 (A.ext H) o;obtain rfl:s=[.slice ah 0 0]:=z;refine⟨c,C,H.trans g,D,[.slice ah 0 0],t,rfl,?_,E⟩;refine cM.ext g ?_;exact⟨⟨_,rfl,rfl⟩,gO (bI _ _) rfl ⟨e,0,rfl,rfl,.inl ⟨by simp[bU],rfl⟩⟩⟩
def Oz{elem nb k x j}(h:dJ B N γ σ a w)(l:k<N)(m:dw σ x≠.undef)(n:∀u,dw σ x≠.BF u)
  (o:((rE (nb+k) j 0 (dw σ x) σ).bind λr=>r.2.bF (nb+k) r.1 elem false λb σ=>.ret (σ.put k<|.ptr (nb+k) b [])).run=ab aY) :
  oM P B N γ σ a w (ab k) (Instr.box elem<|a.eval x) aY:=by
 obtain⟨r,p,q⟩:=bind_some o;obtain⟨s,t,g,v,y⟩:=Oy h.ok ((h.dw x).oL n λe=>absurd e m) p;obtain⟨b,c,f⟩:=ev q;obtain rfl:=aQ f;obtain⟨m1,i⟩:=t.newVar c elem (.inr rfl) y;refine⟨.pointer<|some ⟨w.heap.size,0,ah⟩,_,_,?_,?_,g.trans i⟩
 .simp only[Instr.box,Sem.run_bind,tc,Result.andThen_ok,Sem.run_pure]
 .have:=h.step (g.trans i) m1 l CY;rw[<-v] at this;exact this
def aa3{elem nb k x}(h:dJ B N γ σ a w)(i:k<N)(j:dw σ x≠.undef)(l:∀u,dw σ x≠.BF u)
  (m:(σ.bF (nb+k) (dw σ x) 0 false λb σ=>.ret (σ.put k<|.ptr (nb+k) b [])).run=ab aY) :
  oM P B N γ σ a w (ab k) (Instr.box elem<|a.eval x) aY:=by
 obtain⟨b,c,f⟩:=ev m;obtain rfl:=aQ f;obtain⟨m1,g⟩:=h.ok.newVar c elem (.inl rfl) ((h.dw x).oL l λe=>absurd e j);refine⟨.pointer _,_,_,?_,h.step g m1 i CY,g⟩;simp only[Instr.box,Sem.run_bind,tc,Result.andThen_ok,Sem.run_pure]
def agK{mem}:∀{u v k vs},cM γ mem w u .many vs->nth u k=ab v->∃x,vs[k]?=ab x/\cM γ mem w v .val [x]:=by
 intro u;induction u with
 | mix p q f e =>
   intro v k vs h b;obtain⟨c,r,rfl,g,i⟩:=h;cases k with
   | zero=>obtain rfl:=aQ b;exact⟨c,rfl,g⟩
   | succ k=>obtain⟨x,j,l⟩:=e i b;exact⟨x,by simpa using j,l⟩
 | _=>intro v k vs h b;exact absurd b cl
def OA{x k vs v}(h:dJ B N γ σ a w)(e:∀k,d=ab k->k<N)(f:dw σ x=.BF vs)(g:nth vs k=ab v) :
  oM P B N γ σ a w d (Instr.extract (a.eval x) k) (σ.bD d v):=by
 have hv:=h.dw x;rw[f] at hv;obtain⟨b,c,i⟩:=hv;obtain c:a.eval x=_:=by simpa using c
 obtain⟨y,j,l⟩:=agK i g;refine bV h e ?_ l;rw[c];have:b[k]?=ab y:=by simpa using j
 simp only[Instr.extract,this,Sem.run_pure]
def ad6:∀{ops:List Operand} {cs},dJ B N γ σ a w->Hm (ops.map<|dw σ)=ab cs->cs.length=ops.length /\
  ∀(i:Nat) b aU,cs[i]?=ab (b,aU)->nU σ.mem b aU λ_=>∃c g,γ.loc b=ab (c,g)/\(ops.map a.eval)[i]?=ab (.pointer<|some ⟨c,0,ah⟩):=by
 intro ops;induction ops with
 | nil=>intro cs h f;obtain rfl:=aQ f;exact⟨rfl,λi b aU k=>by cases k⟩
 | cons o r q =>
   intro cs h f;have n:=h.dw o;unfold Hm at f;split at f
   .rename_i j;cases j
   .rename_i D p E j;injection j with s t
    subst t;rw[s] at n;cases l:Hm _ with
    | none=>rw[l] at f;cases f
    | some u =>
      rw[l] at f;obtain rfl:=aQ f;obtain⟨v,F⟩:=q h l;refine⟨by simp[v],λi b aU k=>?_⟩;cases i with
      | zero =>
        obtain⟨rfl,rfl⟩:=cd (aQ k);obtain⟨x,y,z,A⟩:=n.2;refine⟨x,y,z,λe=>?_⟩;obtain⟨c,g,C,m⟩:=A e;obtain m:a.eval o=_:=by simpa using m
        exact⟨c,g,C,by simp[m,eC]⟩
      | succ i =>
        grind
   .cases f
def LQ{f:Nat}{c:Array Operand}{cs}(h:dJ B N γ σ a w)(g:∀k,d=ab k->k<N)(e:Hm (c.toList.map<|dw σ)=ab cs) :
  oM P B N γ σ a w d (Instr.makeFunc (.func f) #[] (c.map a.eval)) (σ.bD d<|.fn f cs):=by
 obtain⟨j,m⟩:=ad6 h e;refine bV h g rfl ?_;refine⟨c.map a.eval,rfl,by rw[j];simp,λi b l n=>?_⟩
 grind
end
end Go.Ge
