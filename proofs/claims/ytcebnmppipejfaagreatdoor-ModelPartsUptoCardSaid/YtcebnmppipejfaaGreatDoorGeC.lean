import Derived.Test.YtcebnmppipejfaaGreatDoorGeB
set_option linter.unusedVariables false
set_option linter.unusedSimpArgs false
set_option linter.unusedSectionVars false
set_option linter.defProp false
open Option renaming some->ab,none->ah
namespace Go.Ge
open RowKit
section
variable {P:Program} {B:BI} {N:Nat} {γ:Gh} {σ ba:St} {a:Act} {w:World} {d:Option Nat} {cx:Ctx}
def I7{s b k f u}(e:P.underlying s=ab (.struct b))(g:b.toList[k]?=ab f)(h:Den P u f.type)(j:0<u.size) blk off :
  (Instr.fieldAt s (.pointer<|some ⟨blk,off,ah⟩) k).run P w=.ok (.pointer<|some ⟨blk,off+f.offset,ah⟩) w:=by
 have c:b[k]?=ab f:=by simpa using g
 have i:¬(u.size=0):=ai;simp only[Instr.fieldAt,Sem.run_bind,run_underlying e,Result.andThen_ok,c,Instr.sureAddr,Sem.run_pure,fieldPlace,h.sizeOf w,aQ i,addr_add]
def RV{s b k f i}(g:P.underlying s=ab (.struct b))(h:b.toList[k]?=ab f)(j:P.info? f.type=ab i)(m:0<i.size) blk off :
  (Instr.fieldAt s (.pointer<|some ⟨blk,off,ah⟩) k).run P w=.ok (.pointer<|some ⟨blk,off+f.offset,ah⟩) w:=by
 have c:b[k]?=ab f:=by simpa using h
 have l:¬(i.size=0):=ai;have e:(Go.sizeOf f.type).run P w=.ok i.size w:=by simp[Go.sizeOf,typeInfo,j]
 simp only[Instr.fieldAt,Sem.run_bind,run_underlying g,Result.andThen_ok,c,Instr.sureAddr,Sem.run_pure,fieldPlace,e,aQ l,addr_add]
def EH{t s}(g:Den P t s){k u o}(e:xU t k=ab u)(h:ko t k=ab o) :
  ∃(c:Array Field) (f:Field),P.underlying s=ab (.struct c)/\c.toList[k]?=ab f/\f.offset=o/\Den P u f.type/\0<u.size:=by
 cases t with
 | pair a b =>
   obtain⟨c,j,i,_⟩:=g.pair;obtain⟨f,l,m,n,p⟩:=i.at e h
   grind
 | _=>cases k<;>cases e
def DK(G:fX P cx){s x k}(h:dK B N γ σ a w)(H:∀k,d=ab k->k<N)(r:(fD cx d s (dv σ x) k σ).run=ab ba) :
  oR P B N γ σ a w d (Instr.fieldAt s (a.eval x) k) ba:=by
 have hv:=h.dv x;unfold fD at r;split at r
 .rename_i u y I;rw[I] at hv;obtain⟨J,c⟩:=aJ r;split at c
  .rename_i o t z S;obtain rfl:=aR c;obtain⟨g,l,U,K,V,W⟩:=hv;obtain K:a.eval x=_:=by simpa using K
   obtain⟨t',z',X,Y,Z,e4,e5⟩:=EG V S;cases X;obtain⟨O,f,A,C,Q,D,E⟩:=EH (G.T _ _<|jN J) Y Z;refine bV h H (by rw[K];exact I7 A C D E g l) ⟨g,l+f.offset,(U.drop o).take t.size,rfl,e5,λj v F=>?_⟩;rw[jU] at F;split at F
   .rw[tf] at F;have:=W _ v F
    grind
   .cases F
  .cases c
 .rename_i b aV p I;rw[I] at hv;obtain⟨J,c⟩:=aJ r;obtain⟨R,m,n⟩:=lg J;split at c
  .rename_i t hT;split at c
   .rename_i l u L hu;obtain rfl:=aR c;obtain⟨g,q,M,e⟩:=bA m n hv.2;obtain e:a.eval x=_:=by simpa using e
    obtain⟨O,f,A,C,Q,D,E⟩:=EH (G.T _ _ hT) hu L;refine bV h H (by rw[e];exact I7 A C D E g _) ⟨⟨_,rfl,rfl⟩,R,m,ai,λ_=>⟨g,q,M,?_⟩⟩;rw[B3];simp[eF]
   .cases c
  .split at c
   .rename_i O hO;split at c
    .rename_i l L;obtain rfl:=aR c;obtain⟨g,q,M,e⟩:=bA m n hv.2;obtain e:a.eval x=_:=by simpa using e
     obtain⟨gs,f,i,A,C,Q,D,E⟩:=ag0 (G.sO _ _ hO) L;refine bV h H (by rw[e];exact RV A C D E g _) ⟨⟨_,rfl,rfl⟩,R,m,ai,λ_=>⟨g,q,M,?_⟩⟩;rw[B3];simp[eF]
    .cases c
   .cases c
 .cases r
def UC(i:fX P cx){e:TypeId}{k o u y v val}(j:find cx.T e=ab u)(l:cM γ σ.mem w (.data u y) .val [val])(m:vE (.data u y) k=ab (o,v)) :
  ∃z,(Instr.field e val k).run P w=.ok z w/\cM γ σ.mem w v .val [z]:=by
 obtain⟨cs,n,rfl⟩:=eH.1 l;obtain⟨p,D,rfl,g,q,r,s⟩:=EG n m;obtain⟨t,f,x,A,h,C,E⟩:=EH (i.T _ _ j) g q;have b:u.isAgg=true:=by cases u<;>first|rfl|(cases k<;>cases g)
 refine⟨cY p _,?_,_,s,rfl⟩;have c:t[k]?=ab f:=by simpa using A
 simp only[cY,b,z6,Instr.field,Sem.run_bind,run_underlying x,Result.andThen_ok,c,asAgg,Sem.run_pure,(C5 C (cs:=cs.toArray) (off:=f.offset) (by rw[h];simpa using r) uN)];rw[h]
def n7{t b h}(j:P.underlying t=ab (.slice b))(l:(Go.sizeOf b).run P w=.ok h w)(c e f g:Nat) k {i:Int} (m:0<=i) (n:i<f) :
  (Instr.indexAt t (.slice (ab ⟨c,e,ah⟩) f g)<|.int k i).run P w=.ok (.pointer<|some ⟨c,e+i.toNat*h,ah⟩) w:=by
 simp only[Instr.indexAt,asIntOf,Sem.run_bind,Sem.run_pure,Result.andThen_ok,run_underlying j,Uo,m,n,vD,l,addr_add]
def Bf{t b c n}(e:P.underlying t=ab (.array n b))(f:(Go.sizeOf b).run P w=.ok c w) blk off k {i:Int} (g:0<=i) (h:i<n) :
  (Instr.indexAt t (.pointer<|some ⟨blk,off,ah⟩)<|.int k i).run P w=.ok (.pointer<|some ⟨blk,off+i.toNat*c,ah⟩) w:=by
 simp only[Instr.indexAt,asIntOf,Sem.run_bind,Sem.run_pure,Result.andThen_ok,run_underlying e,Instr.sureAddr,Uo,g,h,vD,f,addr_add]
def B5{i n}(h:within i n=true):0<=i/\i<n:=by
 simp only[within,gw,pR] at h;exact h
def jX{i j n}(h:inside i j n=true):0<=i/\i<=j/\j<=n:=by
 simp only[inside,gw,pR] at h;exact⟨h.1.1,h.1.2,h.2⟩
def FT{b aV e n}(h:Aa σ b aV=ab (e,n)):∃(i:Box) (k:Nat),σ.mem b=ab i/\i.aV=aV/\i.row=ab (e,k)/\n=k:=by
 unfold Aa at h;split at h
 .rename_i i j;cases c:Nat.beq i.aV aV with
  | false=>rw[c] at h;cases h
  | true =>
    rw[c] at h;split at h
    .rename_i m l f g;obtain⟨rfl,rfl⟩:=cg (aR h);exact⟨i,_,j,ja c,by rw[Box.row,f,g],rfl⟩
    .rename_i o m l f g;obtain⟨rfl,rfl⟩:=cg (aR h);exact⟨i,_,j,ja c,by rw[Box.row,f,g],rfl⟩
    .cases h
 .cases h
def Box.eu{bx:Box}{e:Ty}{l:List e.den}(b:bx.buf=true)(c:bx.val=.data (.slice e) l):bx.row=ab (e,l.length):=by rw[Box.row,b,c]
def Box.rS{b:Box}{e n l}(c:b.buf=false)(f:b.val=.data (.arr n e) l):b.row=ab (e,n):=by rw[Box.row,c,f]
def Ai(c:fX P cx){t e:Nat}(h:Qp cx t=ab e):P.underlying t=ab (.slice e)/\dz cx.rC e=true:=by
 unfold Qp at h;split at h
 .cases h
 .split at h
  .rename_i u f;cases b:dz cx.rC u with
   | false=>rw[b] at h;cases h
   | true =>
     rw[b] at h;obtain rfl:=aR h;exact⟨c.Up _ _ f,b⟩
  .cases h
def Xq{b aV i}:∀{m k},(LN d b aV σ i m k).run=ab ba->∃j,k<=j/\j<k+m/\i=j/\ba=σ.bD d (.ptr b aV [.gD j j]):=by
 intro m;induction m with
 | zero=>intro k c;cases c
 | succ m f =>
   intro k c;have e:=gR c;cases hi:aS i k with
   | true =>
     rw[hi] at e;obtain rfl:=aR e;exact⟨k,cq _,ai,by simpa [aS] using hi,rfl⟩
   | false =>
     grind
def I8{q}(h:KO q=true):eF q=0:=by
 unfold KO at h;split at h
 .simp[eF,ja h]
 .cases h
def vH(R:fX P cx){ty x S i}(h:dK B N γ σ a w)(Y:∀k,d=ab k->k<N)(A:(fc cx d ty (dv σ x) i σ).run=ab ba) :
  oR P B N γ σ a w d (Instr.indexAt ty (a.eval x)<|.int S i) ba:=by
 have hv:=h.dv x;unfold fc at A;split at A
 .rename_i u e l K F;rw[F] at hv;obtain⟨C,o⟩:=aJ A;obtain rfl:=Ty.eq_of_beq C;obtain⟨y,hy,z⟩:=cp o;obtain rfl:=aR z;obtain⟨L,G⟩:=uL hy;obtain⟨M,H,I,k3,k4⟩:=(R.T _ _ K).slice;obtain⟨cs,E,t⟩:=eH.1 hv;have hi:=(ib.1 G).1;rcases E with ⟨_,E⟩|⟨f,J,r,E,h2,h3,h4⟩
  .grind
  .rw[E] at t;have U:a.eval x=.slice _ _ r:=t;obtain⟨es,g1,V,O⟩:=h4 _ y G;refine bV h Y (by rw[U];exact n7 H (I.sizeOf w) f J _ r S L ai) ⟨f,J+i.toNat*u.size,es,rfl,O,λj v W=>?_⟩
   grind
 .rename_i m u n e l K F;rw[F] at hv;obtain⟨C,o⟩:=aJ A;simp only[gw] at C;obtain rfl:=Ty.eq_of_beq C.1;obtain rfl:=ja C.2;obtain⟨y,hy,z⟩:=cp o;obtain rfl:=aR z;obtain⟨L,G⟩:=uL hy;obtain⟨M,H,I,k3⟩:=(R.T _ _ K).arr;obtain⟨f,J,cs,E,h2,h3⟩:=hv;obtain E:a.eval x=_:=by simpa using E
  have hi:i.toNat<m:=by have:=(ib.1 G).1;have:=h2.1;omega
  refine bV h Y (by rw[E];exact Bf H (I.sizeOf w) f J S L ai) ⟨f,J+i.toNat*u.size,_,rfl,(h2.2.2 _ y G),λj v W=>?_⟩;rw[jU] at W;split at W
  .rw[tf] at W;have:=h3 _ v W
   grind
  .cases W
 .rename_i u b X K F;rw[F] at hv;split at A
  .rename_i e n he;obtain⟨C,o⟩:=aJ A;obtain rfl:=Ty.eq_of_beq C;obtain⟨hw,z⟩:=cP o;obtain rfl:=aR z;obtain⟨L,E⟩:=B5 hw;obtain⟨Q,k,g,s,D,rfl⟩:=FT he;obtain⟨M,H,I,k3,k4⟩:=(R.T _ _ K).slice;obtain⟨e',n',g1,V,O⟩:=bA g s hv.2;rw[D] at V;obtain⟨rfl,rfl⟩:=cg (aR V);rcases O with ⟨O,Z⟩|⟨f,r,O,Z⟩
   .exfalso;have hat:=h.ok.boxes b Q g;rw[fu,g1] at hat;obtain⟨e2,l,j1,j2,j3⟩:=hat;rcases j3 with ⟨_,j4⟩|⟨_,_,_,_,_,j3,_⟩
    .rw[Box.eu g1 j1] at D
     grind
    .grind
   .obtain Z:a.eval x=_:=by simpa using Z
    refine bV h Y (by rw[Z];exact n7 H (I.sizeOf w) f 0 _ r S L E) ⟨⟨_,rfl,rfl⟩,Q,g,ai,λ_=>⟨f,r,O,by simp[eF]⟩⟩
  .cases A
 .rename_i u b X lo n K F;rw[F] at hv;split at A
  .rename_i e n2 he;obtain⟨C,o⟩:=aJ A;obtain rfl:=Ty.eq_of_beq C;obtain⟨hw,z⟩:=cP o;obtain rfl:=aR z;obtain⟨L,E⟩:=B5 hw;obtain⟨Q,k,g,s,D,rfl⟩:=FT he;obtain⟨M,H,I,k3,k4⟩:=(R.T _ _ K).slice;obtain⟨e',n',V,O,Z,g5,base,r,g6,g7,g8,gF,g9⟩:=bA g s hv.2;rw[D] at V;obtain⟨rfl,rfl⟩:=cg (aR V);rcases g9 with g9|⟨f,c,g9,g10⟩
   .omega
   .obtain g6:a.eval x=_:=by simpa using g6
    refine bV h Y (by rw[g6,g10];exact n7 H (I.sizeOf w) f _ _ r S L ai) ⟨⟨_,rfl,rfl⟩,Q,g,ai,λ_=>⟨f,c,g9,?_⟩⟩;have:(plus lo i).toNat=lo.toNat+i.toNat:=by simp only[plus];omega
    simp only[eF,this,jc,FB]
  .cases A
 .rename_i m u b X p K F;rw[F] at hv;obtain⟨C,o⟩:=aJ A;obtain⟨Q,g,s⟩:=lg C;obtain⟨hw,z⟩:=cP o;obtain rfl:=aR z;obtain⟨L,E⟩:=B5 hw;obtain⟨M,H,I,k3⟩:=(R.T _ _ K).arr;obtain⟨f,r,hl,t⟩:=bA g s hv.2;obtain t:a.eval x=_:=by simpa using t
  refine bV h Y (by rw[t];exact Bf H (I.sizeOf w) f _ S L E) ⟨⟨_,rfl,rfl⟩,Q,g,ai,λ_=>⟨f,r,hl,?_⟩⟩;rw[B3];simp[eF]
 .rename_i b X q e0 k0 lo n K F;rw[F] at hv;split at A
  .rename_i e he;obtain⟨C,o⟩:=aJ A;simp at C;obtain⟨⟨hq,rfl⟩,hl⟩:=C;obtain⟨Q,g,s⟩:=lg hl;obtain⟨H,I⟩:=Ai R he;obtain⟨j,_,W,rfl,rfl⟩:=Xq o;obtain⟨_,f,c,g1,V,O,Z,base,r,g5,g6,g7⟩:=bA g s hv.2;obtain g5:a.eval x=_:=by simpa using g5
   rcases g7 with g7|g7
   .grind
   .rw[I8 hq] at g7;have hj':(j:Int)<n.toNat:=ai;refine bV h Y (by rw[g5,g7];exact n7 H ((R.rC _ I).2.1 w) f _ _ r S ai hj') ⟨⟨_,rfl,rfl⟩,Q,g,ai,λ_=>⟨f,c,g1,?_⟩⟩;simp[eF]
  .cases A
 .cases A
def J1(r:fX P cx){ty x s i}(h:dK B N γ σ a w)(z:∀k,d=ab k->k<N)(p:(nc cx d ty (dv σ x) i σ).run=ab ba) :
  oR P B N γ σ a w d (Instr.indexAt ty (a.eval x)<|.int s i) ba:=by
 have hv:=h.dv x;unfold nc at p;split at p
 .rename_i b E q O Q R n e F G;rw[F] at hv;obtain⟨A,f⟩:=aJ p;simp at A;obtain⟨⟨H,rfl⟩,I⟩:=A;obtain⟨J,g,l⟩:=lg I;obtain⟨K,L⟩:=Ai r G;split at f
  .rename_i j;obtain⟨C,t⟩:=aJ f;obtain rfl:=aR t;have C:=iy C;obtain⟨_,m,c,M,S,T,U,D,u,v,V,o⟩:=bA g l hv.2;obtain v:a.eval x=_:=by simpa using v
   rcases o with o|o
   .grind
   .rw[I8 H] at o;have y:(j:Int)<n.toNat:=ai;show oR P B N γ σ a w d (Instr.indexAt ty _<|.int s j) _
    refine bV h z (by rw[v,o];exact n7 K ((r.rC _ L).2.1 w) m _ _ u s ai y) ⟨⟨_,rfl,rfl⟩,J,g,ai,λ_=>⟨m,c,M,?_⟩⟩;simp[eF]
  .cases f
 .exact vH r h z p
def u8_in b:IntKind.u8.min<=u8 b/\u8 b<=IntKind.u8.max:=by
 have:=b.toNat_lt;have c:IntKind.u8.min=0:=aK;have e:IntKind.u8.max=255:=aK;simp only[u8];omega
def J2(C:fX P cx){ty x G i}(h:dK B N γ σ a w)(D:∀k,d=ab k->k<N)(j:(nd cx d ty (dv σ x) i σ).run=ab ba) :
  oR P B N γ σ a w d (Instr.index ty (a.eval x)<|.int G i) ba:=by
 have hv:=h.dv x;unfold nd at j;split at j
 .rename_i s o p;rw[p] at hv;obtain⟨b,q,g⟩:=cp j;obtain rfl:=aR g;obtain⟨r,f⟩:=uL q;obtain⟨c,Q⟩:=yL hv;refine bV h D ?_ (mkInt<|u8_in b);rw[c];have H:(⟨List.toArray s⟩:ByteArray)[i.toNat]?=ab b:=by
   have:=(ib.1 f);obtain⟨I,J⟩:=this;rw[getElem?_pos _ i.toNat I];exact congrArg ab J
  simp only[Instr.index,asIntOf,Sem.run_bind,Sem.run_pure,Result.andThen_ok,run_underlying ((C.T _ _ o).str),r,H];rfl
 .rename_i m u n e l o p;rw[p] at hv;obtain⟨t,v⟩:=aJ j;simp only[gw] at t;obtain rfl:=Ty.eq_of_beq t.1;obtain rfl:=ja t.2;obtain⟨y,q,g⟩:=cp v;obtain rfl:=aR g;obtain⟨r,f⟩:=uL q;obtain⟨K,L,E,R⟩:=(C.T _ _ o).arr;obtain⟨F,z,c⟩:=eH.1 hv;have hi:i.toNat<m:=by have:=(ib.1 f).1;have:=z.1;omega
  have M:_*u.size<=m*u.size:=ic _ hi;rw[JY] at M;have O:=z.2.1;refine bV h D ?_ ⟨_,(z.2.2 _ y f),rfl⟩;have A:i<m:=ai;rw[c];show(Instr.index ty (.agg F.toArray) _).run P w=_
  simp only[Instr.index,asIntOf,Sem.run_bind,Sem.run_pure,Result.andThen_ok,run_underlying L,r,A,Uo,vD,E.sizeOf w,(C5 E (cs:=F.toArray) (off:=i.toNat*u.size) nU uN)]
 .cases j
def sb0 isSlice len cap:(Instr.sliceBounds isSlice len cap ah ah ah).run P w=.ok (0,len,cap) w:=by simp[Instr.sliceBounds]
def sbh isSlice (len cap:Nat) k {y:Int} (b:0<=y) (c:y<=cap):(Instr.sliceBounds isSlice len cap ah (ab<|.int k y) ah).run P w=.ok (0,y.toNat,cap) w:=by
 have c1:0<=y/\y<=cap:=⟨b,c⟩;simp only[Instr.sliceBounds,Instr.sliceBound,asIntOf,Sem.run_bind,Sem.run_pure,Result.andThen_ok,c1,Uo,vD]
def sbl isSlice (len cap:Nat) k {y:Int} (b:0<=y) (c:y<=len):(Instr.sliceBounds isSlice len cap (ab<|.int k y) ah ah).run P w=.ok (y.toNat,len,cap) w:=by
 have c1:0<=y/\y<=len:=⟨b,c⟩;simp only[Instr.sliceBounds,Instr.sliceBound,asIntOf,Sem.run_bind,Sem.run_pure,Result.andThen_ok,c1,Uo,vD]
def al4 isSlice (len cap:Nat) k c {y b:Int} (e:0<=y) (g:y<=b) (f:b<=cap):(Instr.sliceBounds isSlice len cap (ab<|.int k y) (ab<|.int c b) ah).run P w=.ok (y.toNat,b.toNat,cap) w:=by
 have c1:0<=b/\b<=cap:=⟨ai,f⟩;have c2:0<=y/\y<=b.toNat:=⟨e,ai⟩;simp only[Instr.sliceBounds,Instr.sliceBound,asIntOf];simp_all
def qP{lo hi n i j}(h:dK B N γ σ a w)(b:bounds σ n lo hi=ab (i,j)) isSlice (len cap:Nat) (x:n=len) (s:len<=cap) (p:0<=i) (q:i<=j) (z:j<=n) :
  (Instr.sliceBounds isSlice len cap (lo.map a.eval) (hi.map a.eval) ah).run P w=.ok (i.toNat,j.toNat,cap) w:=by
 have c:∀o k m,dv σ o=.data (.int k) m->a.eval o=.int k m:=λo k m e=>by
  have:=h.dv o;rw[e] at this;exact(vj this).1
 unfold bounds at b;cases lo with
 | none =>
   cases hi with
   | none =>
     have:=sb0 (P:=P) (w:=w) isSlice len cap
     grind
   | some o =>
     simp only at b;split at b
     .rename_i k y f;obtain⟨rfl,g⟩:=cg (aR b);have e:=c o k _ f;rw[show y=j from g] at e;simp only[LC,e];exact sbh isSlice len cap k q ai
     .cases b
 | some o =>
   cases hi with
   | none =>
     simp only at b;split at b
     .rename_i k y f;have:=sbl (P:=P) (w:=w) isSlice len cap k p ai
      grind
     .cases b
   | some o2 =>
     simp only at b;split at b
     .rename_i k y r t f l;obtain⟨u,v⟩:=cg (aR b);have e:=c o k _ f;have g:=c o2 r _ l;rw[show y=i from u] at e;rw[show t=j from v] at g;simp only[LC,e,g];exact al4 isSlice len cap k r p q ai
     .cases b
def ael s {i j} (b:0<=i) (c:i<=j):(⟨s.toArray⟩:ByteArray).extract i.toNat j.toNat=⟨(sub s i<|minus j i).toArray⟩:=by
 have:(minus j i).toNat=j.toNat-i.toNat:=by simp only[minus];omega
 apply ByteArray.ext;simp[sub,this]
def Xr{α}(s:List α) i n:(sub s i n).length<=s.length:=by
 simp only[sub,km,nV];omega
def aem{I e}{l:List e.den}{blk off cap i j}(h:∀k x,l[k]?=ab x->∃b,b.length=e.size /\
   (∀q v,b[q]?=ab v->w.cell? ⟨blk,off+k*e.size+q,ah⟩=ab v/\I blk (off+k*e.size+q))/\bZ w I e x b) (m:i<=j) (n:j<=l.length) (o:l.length<=cap) (p:cap<=maxLen) base
  (f:base=ab ⟨blk,off+i*e.size,ah⟩\/(i=cap/\base=ab ⟨blk,off,ah⟩)) :
  bZ w I (.slice e) ((l.drop i).take<|j-i) [.slice base (j-i)<|cap-i]:=by
 rcases f with rfl|⟨rfl,rfl⟩
 .refine .inr ⟨blk,off+i*e.size,cap-i,?_,?_,ai,λk x g=>?_⟩
  .grind
  .grind
  .grind
 .have c:j=i:=ai;subst c;refine .inr ⟨blk,off,0,aY,aY,ai,λk x g=>?_⟩
  grind
def sub_eq{α}(l:List α){i j}(b:0<=i)(c:i<=j):sub l i (minus j i)=(l.drop i.toNat).take (j.toNat-i.toNat):=by
 have:(minus j i).toNat=j.toNat-i.toNat:=by simp only[minus];omega
 rw[sub,this]
def sub_zero{α}(l:List α):sub l 0 (minus 0 0)=[]:=by simp[sub,minus]
def abe{I e l blk off cap i j}(c:∀k x,l[k]?=ab x->∃b,b.length=e.size /\
   (∀q v,b[q]?=ab v->w.cell? ⟨blk,off+k*e.size+q,ah⟩=ab v/\I blk (off+k*e.size+q))/\bZ w I e x b) (f:0<=i) (g:i<=j) (o:j<=l.length) (h:l.length<=cap) (m:cap<=maxLen) base
  (n:base=ab ⟨blk,off+i.toNat*e.size,ah⟩\/(i.toNat=cap/\base=ab ⟨blk,off,ah⟩)) :
  bZ w I (.slice e) (sub l i<|minus j i) [.slice base (j.toNat-i.toNat)<|cap-i.toNat]:=by
 rw[sub_eq l f g];exact aem c ai ai h m base n
def wS.sub{base cap}(h:wS base cap) i s:wS (if cap=i then base else base.map (·.add s)) (cap-i):=by
 rcases h with rfl|⟨b,c,rfl⟩
 .exact .inl ai
 .refine .inr ?_;split
  .grind
  .exact⟨b,c+s,by rw[LC,addr_add]⟩
def FM.sub{f b lo i base cap}(h:FM γ f b lo base cap)(j:0<=lo)(n:0<=i) s :
  FM γ f b (plus lo i) (if cap=i.toNat then base else base.map (·.add (i.toNat*s))) (cap-i.toNat):=by
 intro e k;have l:lo=0:=by simp only[plus] at e;omega
 have m:i=0:=by simp only[plus] at e;omega
 subst l;subst m;rcases h rfl k with ⟨g,rfl,rfl⟩|⟨c,g,rfl⟩
 .grind
 .refine .inr ⟨c,by simpa using g,?_⟩;split
  .rfl
  .simp[Addr.add]
def J3(hc:fX P cx){ty:TypeId}{x:Operand}{lo hi:Option Operand}(h:dK B N γ σ a w)(hd:∀k,d=ab k->k<N)(F:(na cx d ty (dv σ x) lo hi σ).run=ab ba) :
  oR P B N γ σ a w d (Instr.sliceAt ty (a.eval x) (lo.map a.eval) (hi.map a.eval) ah) ba:=by
 have hv:=h.dv x;unfold na at F;split at F
 ·
  rename_i s O Q;rw[Q] at hv;split at F
  .rename_i i j G;obtain⟨A,r⟩:=cP F;obtain rfl:=aR r;obtain⟨D,J,E⟩:=jX A;obtain⟨p,hl⟩:=yL hv;have hu:=(hc.T _ _ O).str;have y:=qP (P:=P) h G false (List.length (α:=UInt8) s) (List.length (α:=UInt8) s) rfl (cq _) D J E;refine bV h hd (x:=.string ⟨(sub (α:=UInt8) s i<|minus j i).toArray⟩) ?_ (mkStr<|jb (Xr (α:=UInt8) s _ _) hl);rw[p];have hsz:(⟨List.toArray (α:=UInt8) s⟩:ByteArray).size=List.length (α:=UInt8) s:=rfl;simp only[Instr.sliceAt,Instr.slice,Sem.run_bind,run_underlying hu,Result.andThen_ok,hsz,Option.isSome_none,Bool.false_eq_true,if_false];rw[y];simp only[Result.andThen_ok,Sem.run_pure];rw[ael (show aw from s) D J]
  .cases F
 ·
  rename_i u e l O Q;rw[Q] at hv;obtain⟨t,o⟩:=aJ F;obtain rfl:=Ty.eq_of_beq t;split at o
  .rename_i i j G;obtain⟨A,r⟩:=cP o;obtain rfl:=aR r;obtain⟨D,J,E⟩:=jX A;obtain⟨Z,U,V,k3,k4⟩:=(hc.T _ _ O).slice;obtain⟨cs,al5,p⟩:=eH.1 hv;have H:len (α:=u.den) l=(List.length (α:=u.den) l:Int):=rfl;rcases al5 with ⟨⟨K,e1⟩,e2⟩|⟨b,R,f,e1,e2,e3,e4⟩
   .have L:a.eval x=.slice K 0 0:=by rw[p,e1];rfl
    have M:List.length (α:=u.den) l=0:=by rw[show l=([]:List u.den) from e2];rfl
    rw[H,M] at E;have hi0:i=0:=ai;have hj0:j=0:=ai;subst hi0;subst hj0;have y:=qP (P:=P) h G true 0 0 (by rw[H,M]) (cq _) D J (by rw[H,M];exact E);refine bV h hd (x:=.slice K 0 0) ?_ ⟨_,.inl ⟨⟨K,rfl⟩,?_⟩,rfl⟩
    .rw[L];simp only[Instr.sliceAt,Instr.slice,Sem.run_bind,run_underlying U,Result.andThen_ok,y,V.sizeOf w,Sem.run_pure];rfl
    .exact sub_zero (α:=u.den) l
   .have L:a.eval x=.slice (ab ⟨b,R,ah⟩) (List.length (α:=u.den) l) f:=by rw[p,e1];rfl
    have y:=qP (P:=P) h G true (List.length (α:=u.den) l) f H e2 D J E;have hj:j.toNat<=List.length (α:=u.den) l:=by rw[H] at E;omega
    have akx:=abe (w:=w) (i:=i) (j:=j) e4 D J (by rw[H] at E;exact E) e2 e3;refine bV h hd (x:=.slice (if f=i.toNat then ab ⟨b,R,ah⟩ else ab ⟨b,R+i.toNat*u.size,ah⟩) (j.toNat-i.toNat) (f-i.toNat)) ?_
     ⟨_,akx (if f=i.toNat then ab ⟨b,R,ah⟩ else ab ⟨b,R+i.toNat*u.size,ah⟩) (by
      split
      .rename_i v;exact .inr ⟨v.symm,rfl⟩
      .exact .inl rfl),rfl⟩
    rw[L];simp only[Instr.sliceAt,Instr.slice,Sem.run_bind,run_underlying U,Result.andThen_ok,y,V.sizeOf w,Sem.run_pure,LC,addr_add]
  .cases o
 ·
  rename_i u c aV lo' n O Q;rw[Q] at hv;split at F
  .rename_i W z;obtain⟨t,o⟩:=aJ F;simp only[gw] at t;have C:=ja t.1;split at o
   .rename_i i j G;obtain⟨A,r⟩:=cP o;obtain rfl:=aR r;obtain⟨D,J,E⟩:=jX A;obtain⟨Z,U,V,k3,k4⟩:=(hc.T _ _ O).slice;obtain⟨e',k,g2,X,g4,g5,g,f,g6,g7,g8,gF,g9⟩:=bA z C hv.2;have hue:u=e':=by
     have:=t.2;rw[g2] at this;exact Ty.eq_of_beq this
    subst hue;obtain g6:a.eval x=_:=by simpa using g6
    have y:=qP (P:=P) h G true n.toNat f ai g7 D J E;refine bV h hd (x:=.slice (if f=i.toNat then g else g.map (·.add (i.toNat*u.size))) (j.toNat-i.toNat) (f-i.toNat)) ?_
     ⟨⟨_,rfl,rfl⟩,W,z,ai,λ_=>⟨u,k,g2,by simp only[plus];omega,by simp only[minus];omega,by simp only[plus,minus];omega,(if f=i.toNat then g else g.map (·.add (i.toNat*u.size))),f-i.toNat,?_,?_,?_,⟨gF.1.sub _ _,gF.2.sub X D _⟩,?_⟩⟩
    .rw[g6];simp only[Instr.sliceAt,Instr.slice,Sem.run_bind,run_underlying U,Result.andThen_ok,y,V.sizeOf w,Sem.run_pure]
    .have:(minus j i).toNat=j.toNat-i.toNat:=by simp only[minus];omega
     rw[this]
    .simp only[minus];omega
    .omega
    .rcases g9 with g9|⟨b,c',g9,g10⟩
     .exact .inl (by simp only[minus];omega)
     .by_cases v:f=i.toNat
      .exact .inl (by simp only[minus];omega)
      .refine .inr ⟨b,c',g9,?_⟩;rw[aQ v,g10];have:(plus lo' i).toNat=lo'.toNat+i.toNat:=by simp only[plus];omega
       simp only[LC,addr_add,this,jc]
   .cases o
  .cases F
 ·
  rename_i u c aV O Q;rw[Q] at hv;split at F
  .rename_i W z;obtain⟨t,o⟩:=aJ F;simp only[gw] at t;have C:=ja t.1;split at o
   .rename_i e l hbv;obtain⟨hue,r⟩:=aJ o;obtain rfl:=Ty.eq_of_beq hue;obtain⟨Z,U,V,k3,k4⟩:=(hc.T _ _ O).slice;obtain⟨e',n',g1,g2,X⟩:=bA z C hv.2;have aen:W.row=ab (u,List.length (α:=u.den) l):=Box.eu t.2 hbv;rw[aen] at g2;obtain⟨rfl,rfl⟩:=cg (aR g2);have hat:=h.ok.boxes c W z;rw[fu,g1] at hat;obtain⟨e2,l2,j1,j2,j3⟩:=hat;have aky:∃g f,a.eval x=.slice g (List.length (α:=u.den) l) f/\List.length (α:=u.den) l<=f/\f<=maxLen/\(((f=0/\List.length (α:=u.den) l=0)/\γ.loc c=ah/\g=ah)\/∃b,γ.loc c=ab (b,f)/\g=ab ⟨b,0,ah⟩):=by
     rw[hbv] at j1;cases j1;rcases X with ⟨X,g4⟩|⟨b,f,X,g4⟩
     .obtain g4:a.eval x=_:=by simpa using g4
      rcases j3 with ⟨_,j4⟩|⟨_,_,_,_,_,j3,_⟩
      .have M:List.length (α:=u.den) l=0:=by rw[j4];rfl
       exact⟨ah,0,by rw[g4,M],ai,qO _,.inl ⟨⟨rfl,M⟩,X,rfl⟩⟩
      .rw[X] at j3;cases j3
     .obtain g4:a.eval x=_:=by simpa using g4
      rcases j3 with ⟨j3,_⟩|⟨abf,ajb,cur,tid,fr,q1,Y,q3,ag3,q4,q5,q6,q7⟩
      .rw[X] at j3;cases j3
      .rw[X] at q1;obtain⟨rfl,rfl⟩:=cg (aR q1);exact⟨_,f,g4,q4,q5,.inr ⟨b,X,rfl⟩⟩
    obtain⟨g,f,m1,m2,m3,m4⟩:=aky;have hF:wS g f:=by
     rcases m4 with ⟨⟨Y,_⟩,_⟩|⟨b,q1,Y⟩
     .exact .inl Y
     .exact .inr ⟨b,0,Y⟩
    have hZ:FM γ W c 0 g f:=λ_ _=>by
     rcases m4 with ⟨⟨Y,_⟩,q3,q4⟩|⟨b,q1,Y⟩
     .exact .inl ⟨q3,q4,Y⟩
     .exact .inr ⟨b,q1,Y⟩
    have I:∀{i j:Int},bounds σ (len (α:=u.den) l) lo hi=ab (i,j)->0<=i->i<=j->j<=len (α:=u.den) l ->
      (Instr.sliceAt ty (a.eval x) (lo.map a.eval) (hi.map a.eval) ah).run P w=.ok (.slice (if f=i.toNat then g else g.map (·.add (i.toNat*u.size))) (j.toNat-i.toNat)<|f-i.toNat) w:=by
     intro i j G D J E;have y:=qP (P:=P) h G true (List.length (α:=u.den) l) f rfl m2 D J E;rw[m1];simp only[Instr.sliceAt,Instr.slice,Sem.run_bind,run_underlying U,Result.andThen_ok,y,V.sizeOf w,Sem.run_pure]
    split at r
    .obtain rfl:=aR r;have:=I (i:=0) (j:=len (α:=u.den) l) rfl ai (by simp only[len];omega) ai;have hjl:(len (α:=u.den) l).toNat=List.length (α:=u.den) l:=by simp[len]
     rw[hjl] at this;refine bV h hd (x:=a.eval x) ?_ hv;rw[this,m1]
     congr 1
     have:(g.map (·.add ((0:Int).toNat*u.size)))=g:=by cases g<;>simp[Addr.add]
     rw[this];simp
    .split at r
     .rename_i i j G;obtain⟨A,S⟩:=cP r;obtain rfl:=aR S;obtain⟨D,J,E⟩:=jX A;have H:len (α:=u.den) l=(List.length (α:=u.den) l:Int):=rfl;rw[H] at E;refine bV h hd (I G D J E)
       ⟨⟨_,rfl,rfl⟩,W,z,ai,λ_=>⟨u,_,aen,D,by simp only[minus];omega,by simp only[minus];omega,(if f=i.toNat then g else g.map (·.add (i.toNat*u.size))),f-i.toNat,?_,?_,?_,⟨hF.sub _ _,by have:=hZ.sub (sN 0) D u.size;rwa [show plus 0 i=i by simp[plus]] at this⟩,?_⟩⟩
      .have:(minus j i).toNat=j.toNat-i.toNat:=by simp only[minus];omega
       rw[this]
      .simp only[minus];omega
      .omega
      .by_cases v:f=i.toNat
       .exact .inl (by simp only[minus];omega)
       .rcases m4 with ⟨q1,q3⟩|⟨b,q1,Y⟩
        .exact .inl ai
        .refine .inr ⟨b,f,q1,?_⟩;rw[aQ v,Y];simp only[LC,addr_add,BT]
     .cases r
   .cases o
  .cases F
 ·
  rename_i m u c aV s q O Q;rw[Q] at hv;obtain⟨hlm,o⟩:=aJ F;simp at hlm;obtain⟨W,z,C⟩:=lg hlm.1;split at o
  .rename_i i j G;obtain⟨A,S⟩:=cP o;obtain rfl:=aR S;obtain⟨D,J,E⟩:=jX A;obtain⟨Z,U,V,k3⟩:=(hc.T _ _ O).arr;obtain⟨b,f,hl,p⟩:=bA z C hv.2;obtain p:a.eval x=.pointer (ab ⟨b,eF _,ah⟩):=by simpa using p
   have y:=qP (P:=P) h G false m m rfl (cq _) D J E;refine bV h hd (x:=.slice (ab<|if m=i.toNat then⟨b,eF (s::q),ah⟩ else(⟨b,eF (s::q),ah⟩:Addr).add (i.toNat*u.size)) (j.toNat-i.toNat) (m-i.toNat)) ?_
    ⟨⟨_,rfl,rfl⟩,W,z,ai,λ_=>⟨aY,b,f,hl,D,by simp only[minus];omega,by simp only[minus];omega,ab (if m=i.toNat then⟨b,eF (s::q),ah⟩ else(⟨b,eF (s::q),ah⟩:Addr).add (i.toNat*u.size)),m-i.toNat,?_,?_,?_⟩⟩
   .rw[p];simp only[Instr.sliceAt,Sem.run_bind,run_underlying U,Result.andThen_ok,Instr.sureAddr,Sem.run_pure,y,V.sizeOf w]
   .have:(minus j i).toNat=j.toNat-i.toNat:=by simp only[minus];omega
    rw[this]
   .simp only[minus];omega
   .by_cases v:m=i.toNat
    .exact .inl (by simp only[minus];omega)
    .refine .inr ?_;rw[aQ v];simp only[addr_add]
  .cases o
 ·
  rename_i m u c aV O Q;rw[Q] at hv;split at F
  .rename_i W z;obtain⟨t,o⟩:=aJ F;simp only[gw,zh] at t;have C:=ja t.1;split at o
   .rename_i n e l hbv;obtain⟨hq,r⟩:=aJ o;simp only[gw] at hq;obtain rfl:=ja hq.1.1;obtain rfl:=Ty.eq_of_beq hq.1.2;have aox:=JU hq.2;split at r
    .rename_i i j G;obtain⟨A,S⟩:=cP r;obtain rfl:=aR S;obtain⟨D,J,E⟩:=jX A;obtain⟨Z,U,V,k3⟩:=(hc.T _ _ O).arr;obtain⟨b,f,hl,p⟩:=bA z C hv.2;obtain p:a.eval x=.pointer _:=by simpa [eF] using p
     have y:=qP (P:=P) h G false m m rfl (cq _) D J E;have hF:wS (ab<|if m=i.toNat then⟨b,0,ah⟩ else(⟨b,0,ah⟩:Addr).add (i.toNat*u.size)) (m-i.toNat):=by
      refine .inr ?_;split
      .exact⟨b,0,rfl⟩
      .exact⟨b,0+i.toNat*u.size,by rw[addr_add]⟩
     refine bV h hd (x:=.slice (ab<|if m=i.toNat then⟨b,0,ah⟩ else(⟨b,0,ah⟩:Addr).add (i.toNat*u.size)) (j.toNat-i.toNat) (m-i.toNat)) ?_
      ⟨⟨_,rfl,rfl⟩,W,z,ai,λ_=>⟨u,m,Box.rS t.2 hbv,D,by simp only[minus];omega,by simp only[minus];omega,ab (if m=i.toNat then⟨b,0,ah⟩ else(⟨b,0,ah⟩:Addr).add _),m-i.toNat,?_,?_,?_,⟨hF,λ_ G=>by rw[t.2] at G;cases G⟩,?_⟩⟩
     .rw[p];simp only[Instr.sliceAt,Sem.run_bind,run_underlying U,Result.andThen_ok,Instr.sureAddr,Sem.run_pure,y,V.sizeOf w]
     .have:(minus j i).toNat=j.toNat-i.toNat:=by simp only[minus];omega
      rw[this]
     .simp only[minus];omega
     .simp only[maxLen];omega
     .by_cases v:m=i.toNat
      .exact .inl (by simp only[minus];omega)
      .refine .inr ⟨b,f,hl,?_⟩;rw[aQ v];simp only[addr_add,BT]
    .cases r
   .cases o
  .cases F
 .cases F
end
end Go.Ge
namespace Go.Ge
open RowKit
section
variable {P:Program} {B:BI} {N:Nat} {γ:Gh} {σ ba:St} {a:Act} {w:World} {d:Option Nat} {cx:Ctx}
def bZ.flat{w w' I I'}:∀{t x cs},t.flat=true->bZ w I t x cs->bZ w' I' t x cs:=by
 intro t;induction t with
 | int k=>intro x cs _ h;exact h
 | bool=>intro x cs _ h;exact h
 | str=>intro x cs _ h;exact h
 | slice e p=>intro x cs f;cases f
 | arr n e p=>intro x cs f h;exact⟨h.1,h.2.1,λi y q=>p f (h.2.2 i y q)⟩
 | pair a b g j =>
   intro x cs f h;simp only[Ty.flat,gw] at f;obtain⟨s,v,A,l,m⟩:=h;exact⟨s,v,A,g f.1 l,j f.2 m⟩
 | unit=>intro x cs _ h;exact h
 | alt u a r g o =>
   intro x cs f h;simp only[Ty.flat,gw] at f;rcases x with y|z
   .obtain⟨l,c,m,C⟩:=h;exact⟨l,c,m,g f.1 C⟩
   .exact o f.2 h
 | BH=>intro x cs _ h;exact h
def B6(w:World)(I:Nat->Nat->Prop)(e:Ty)(l:List e.den)(v:Value):Prop :=
 (l=[]/\∃f b,v=.slice f 0 b/\b<=maxLen/\wS f b) \/
 ∃g h b,v=.slice (ab ⟨g,h,ah⟩) l.length b/\l.length<=b/\b<=maxLen /\
  ∀(i:Nat) (x:e.den),l[i]?=ab x->∃k:List Value,k.length=e.size /\
   (∀(j:Nat) c,k[j]?=ab c->w.cell? ⟨g,h+i*e.size+j,ah⟩=ab c)/\bZ w I e x k
def Aj{I e}{l:List e.den}{blk cur tid k}(m:w.heap[blk]?=ab (.cells cur tid k)){n}(o:n*e.size<=cur.size)
  (h:∀i x,l[i]?=ab x->bZ w I e x ((cur.toList.drop<|i*e.size).take e.size)) (p:l.length<=n) lo :
  ∀i x,(l.drop lo)[i]?=ab x->∃b,b.length=e.size /\
   (∀j c,b[j]?=ab c->w.cell? ⟨blk,lo*e.size+i*e.size+j,ah⟩=ab c)/\bZ w I e x b:=by
 intro i x f;rw[tf] at f;have g:=h _ x f;refine⟨_,g.length,λj c q=>?_,g⟩;rw[cell_of_heap m]
 grind
def fu.row{b bx mem}(h:fu γ mem w b bx){blk cap}(v:γ.loc b=ab (blk,cap)) :
  (∀(e:Ty) (l:List e.den),bx.buf=true->bx.val=.data (.slice e) l->∃c tid f,w.heap[blk]?=ab (.cells c tid f)/\n6 c f/\l.length<=cap/\cap<=maxLen/\c.size=cap*e.size/\0<e.size /\
   ∀i x,l[i]?=ab x->bZ w γ.I e x ((c.toList.drop<|i*e.size).take e.size)) /\
  (∀n (e:Ty) (l:List e.den),bx.buf=false->bx.val=.data (.arr n e) l->∃c tid f,w.heap[blk]?=ab (.cells c tid f)/\n6 c f/\l.length=n/\c.size=n*e.size /\
   ∀i x,l[i]?=ab x->bZ w γ.I e x ((c.toList.drop<|i*e.size).take e.size)):=by
 refine⟨λe l o p=>?_,λn e l o p=>?_⟩
 .rw[fu,o] at h;obtain⟨D,E,r,y,s⟩:=h;rw[p] at r;cases r;rcases s with ⟨s,_⟩|⟨g,j,c,tid,f,q,t,u,k,m,z,A,C⟩
  .grind
  .rw[v] at q;obtain⟨rfl,rfl⟩:=cg (aR q);exact⟨c,tid,f,t,u.th,m,z,A,y,C⟩
 .rw[fu,o] at h;obtain⟨g,j,c,tid,f,q,t,u,k,m⟩:=h;rw[p] at m;obtain⟨F,G,H⟩:=m
  grind
def FU{u e l m}(h:toL u e l=ab m):∃q:u=e,m=q▸l:=mD h
def n8{e v l}(g:jM e σ v=ab l) :
  v=.data (.slice e) l\/(v=.pT/\l=[])\/(∃b c f,v=.whole b c/\σ.mem b=ab f/\f.aV=c/\f.buf=true/\f.val=.data (.slice e) l) \/
  ∃b c o n f,v=.part b c o n/\σ.mem b=ab f/\f.aV=c/\((f.buf=true/\∃j:List e.den,f.val=.data (.slice e) j/\l=sub j o n)\/(f.buf=false/\∃(k:Nat) (j:List e.den),f.val=.data (.arr k e) j/\l=sub j o n)):=by
 unfold jM at g;split at g
 .obtain⟨q,rfl⟩:=FU g
  grind
 .exact .inr (.inl ⟨rfl,(aR g).symm⟩)
 .rename_i b c;split at g
  .rename_i f p;cases m:(Nat.beq f.aV c&&f.buf) with
   | false=>rw[m] at g;exact absurd g aY
   | true =>
     rw[m,z6] at g;simp only[gw] at m;split at g
     .rename_i u j h;obtain⟨q,rfl⟩:=FU g;subst q;exact .inr (.inr<|.inl ⟨b,c,f,rfl,p,ja m.1,m.2,h⟩)
     .grind
  .grind
 .rename_i b c o n;split at g
  .rename_i f p;cases m:Nat.beq f.aV c with
   | false=>rw[m] at g;exact absurd g aY
   | true =>
     rw[m] at g;split at g
     .rename_i u j i h;obtain⟨q,rfl⟩:=FU g;subst q;exact .inr (.inr<|.inr ⟨b,c,o,n,f,rfl,p,ja m,.inl ⟨i,j,h,rfl⟩⟩)
     .rename_i r u j i h;obtain⟨q,rfl⟩:=FU g;subst q;exact .inr (.inr<|.inr ⟨b,c,o,n,f,rfl,p,ja m,.inr ⟨i,r,j,h,rfl⟩⟩)
     .grind
  .grind
 .grind
def KY{α}{l:List α}{b n:Int}(c:0<=b)(e:0<=n)(f:b+n<=l.length):(sub l b n).length=n.toNat:=by
 simp only[sub,km,nV];omega
def tk(M:bN B γ σ.mem w){e v val l}(O:cM γ σ.mem w v .val [val])(hl:jM e σ v=ab l):B6 w γ.I e l val:=by
 rcases n8 hl with rfl|⟨rfl,rfl⟩|⟨b,R,E,rfl,s,p,f,g⟩|⟨b,R,z,n,E,rfl,s,p,S⟩
 .obtain⟨cs,F,r⟩:=eH.1 O;rcases F with ⟨⟨o,F⟩,T⟩|⟨j,U,h,F,T,h3,h4⟩
  .exact .inl ⟨T,o,0,by rw[r,F];rfl,qO _,.inl rfl⟩
  .refine .inr ⟨j,U,h,by rw[r,F];rfl,T,h3,λi x A=>?_⟩
   grind
 .obtain rfl:val=_:=by simpa [cM] using O
  exact .inl ⟨rfl,ah,0,rfl,qO _,.inl rfl⟩
 .obtain⟨e',n',V,t,u⟩:=bA s p O.2;rw[Box.eu V g] at t;obtain⟨rfl,rfl⟩:=cg (aR t);rcases u with ⟨u,C⟩|⟨j,h,u,C⟩
  .obtain rfl:val=_:=by simpa using C
   have G:=M.boxes b E s;rw[fu,V] at G;obtain⟨e2,l2,W,j2,X⟩:=G;rw[g] at W;cases W;rcases X with ⟨_,j4⟩|⟨_,_,_,_,_,X,_⟩
   .exact .inl ⟨j4,ah,0,rfl,qO _,.inl rfl⟩
   .grind
  .obtain rfl:val=_:=by simpa using C
   obtain⟨H,tid,Y,J,Z,D,q4,q5,q6,K⟩:=((M.boxes b E s).row u).1 _ l V g;refine .inr ⟨j,0,h,rfl,D,q4,λi x A=>?_⟩;have:=Aj J ai K D 0 i x A
   grind
 .obtain⟨e',k,t,u,C,g5,o,h,g6,g7,Q,gF,q⟩:=bA s p O.2;obtain rfl:val=_:=by simpa using g6
  rcases S with ⟨f,L,g,rfl⟩|⟨f,k0,L,g,rfl⟩
  .rw[Box.eu f g] at t;obtain⟨rfl,rfl⟩:=cg (aR t);have hlen:=KY u C g5;rcases q with q|⟨j,c,q,y⟩
   .subst q;exact .inl ⟨by simp[sub],o,h,rfl,Q,gF.1⟩
   .obtain⟨H,tid,Y,J,Z,D,q4,q5,q6,K⟩:=((M.boxes b E s).row q).1 _ L f g;refine .inr ⟨j,z.toNat*e.size,h,by rw[y,hlen],by rw[hlen];exact g7,Q,λi x A=>?_⟩;have m:((List.drop z.toNat L).take n.toNat)[i]?=ab x:=A;rw[jU] at m;split at m
    .exact Aj J ai K D z.toNat i x m
    .grind
  .rw[Box.rS f g] at t;obtain⟨rfl,rfl⟩:=cg (aR t);rcases q with q|⟨j,c,q,y⟩
   .subst q;exact .inl ⟨by simp[sub],o,h,rfl,Q,gF.1⟩
   .obtain⟨H,tid,Y,J,Z,D,q5,K⟩:=((M.boxes b E s).row q).2 _ _ L f g;have hlen:=KY u C (by rw[D];exact g5);refine .inr ⟨j,z.toNat*e.size,h,by rw[y,hlen],by rw[hlen];exact g7,Q,λi x A=>?_⟩;have m:((List.drop z.toNat L).take n.toNat)[i]?=ab x:=A;rw[jU] at m;split at m
    .exact Aj J (n:=k0) ai K ai z.toNat i x m
    .grind
def EI{I e blk}:∀{l:List e.den} {off},(∀i x,l[i]?=ab x->∃f,f.length=e.size /\
   (∀j c,f[j]?=ab c->w.cell? ⟨blk,off+i*e.size+j,ah⟩=ab c)/\bZ w I e x f) ->
  ∃b:List Value,b.length=l.length*e.size/\(∀j c,b[j]?=ab c->w.cell? ⟨blk,off+j,ah⟩=ab c)/\(∀c∈b,c.oneCell'=true) /\
   ∀i x,l[i]?=ab x->bZ w I e x ((b.drop<|i*e.size).take e.size):=by
 intro l;induction l with
 | nil=>intro off h;exact⟨[],aY,aY,aY,aY⟩
 | cons m r n =>
   intro off h;obtain⟨f,s,t,o⟩:=h 0 m rfl;obtain⟨b,u,v,y,z⟩:=n (off:=off+e.size) λi x k=>by
    obtain⟨p,A,C,D⟩:=h (i+1) x (by simpa using k)
    grind
   refine⟨f++b,by rw[hY,eU,JY];omega,λj c q=>?_,λc g=>?_,λi x k=>?_⟩
   .rw[RE] at q
    grind
   .rcases Ht.1 g with g|g
    .exact o.one c g
    .grind
   .cases i with
    | zero =>
      grind
    | succ i =>
      rw[JY,ZU,<-yG]
      grind
def FV(h:dK B N γ σ a w){b g e n}(p:σ.mem b=ab g)(m:g.row=ab (e,n))(f:freeze σ b=ab ba) :
  ∃bK,dK B N bK ba a w/\Ext B γ σ.mem w bK ba.mem w/\bK.loc=γ.loc/\∀i k j,γ.loc b=ab (i,k)->j<n*e.size->bK.I i j:=by
 obtain⟨m1,q⟩:=h.ok.freeze p m;have r:ba={ br:=σ.br,mem:=dq σ.mem b { g with ro:=true } }:=by
  unfold freeze at f;rw[p] at f;cases l:g.ro with
  | true =>
    simp only[l,z6,Lt] at f;subst f;have:dq σ.mem b { g with ro:=true }=σ.mem:=by
     funext c;by_cases e:c=b
     .subst e;rw[bJ,p];cases g;subst l;rfl
     .rw[bg _ e]
    rw[this]
  | false =>
    simp only[l] at f;cases o:g.lk with
    | true=>simp[o] at f
    | false=>simp only[o,FA,Lt] at f;subst f;rfl
 subst r;exact⟨_,h.go q m1,q,rfl,λi k j s t=>.inr ⟨⟨k,s⟩,t⟩⟩
def B6.data{g:Gh}{e l val}(h:B6 w γ.I e l val)(s:∀b o,γ.I b o->g.I b o)
  (t:∀f off cap,val=.slice (ab ⟨f,off,ah⟩) l.length cap->∀j,j<l.length*e.size->g.I f (off+j)):bZ w g.I (.slice e) l [val]:=by
 rcases h with ⟨rfl,k,cap,m,p,q⟩|⟨f,off,cap,m,p,q,u⟩
 .rcases q with rfl|⟨f,off,rfl⟩
  .exact .inl ⟨⟨k,by rw[m]⟩,rfl⟩
  .exact .inr ⟨f,off,cap,by rw[m];rfl,qO _,p,λi x n=>by cases n⟩
 .refine .inr ⟨f,off,cap,by rw[m],p,q,λi x n=>?_⟩;obtain⟨es,v,y,z⟩:=u i x n;refine⟨es,v,λj c r=>⟨y j c r,?_⟩,bZ.mono s (λ_ _ _=>rfl) z⟩;have A:j<e.size:=by have:=(ib.1 r).1;omega
  have:_*e.size<=l.length*e.size:=ic _ ((ib.1 n).1);rw[JY] at this;rw[Fz];exact t f off cap m _ ai
def FW(h:dK B N γ σ a w){e v val l}(t:cM γ σ.mem w v .val [val])(H:jM e σ v=ab l)(z:jx σ v=ab ba) :
  ∃bK,dK B N bK ba a w/\Ext B γ σ.mem w bK ba.mem w/\bZ w bK.I (.slice e) l [val]:=by
 have o:=tk h.ok t H;rcases n8 H with rfl|⟨rfl,rfl⟩|⟨b,A,J,rfl,q,m,f,i⟩|⟨b,A,V,n,J,rfl,q,m,C⟩
 .obtain rfl:=aR z;obtain⟨W,K,g⟩:=eH.1 t;have:W=[val]:=by
   obtain⟨c,rfl⟩:=ZB.1 K.length;rw[g];rfl
  exact⟨γ,h,Ext.refl _ _ _ _,by rw[<-this];exact K⟩
 .obtain rfl:=aR z;obtain rfl:val=_:=by simpa [cM] using t
  exact⟨γ,h,Ext.refl _ _ _ _,.inl ⟨⟨ah,rfl⟩,rfl⟩⟩
 .obtain⟨bK,D,u,X,Y⟩:=FV h q (Box.eu f i) z;refine⟨bK,D,u,o.data u.I λx E F g j Z=>?_⟩;obtain⟨L,n',g1,r,G⟩:=bA q m t.2
  grind
 .obtain⟨L,k,r,G,M,O,Q,F,g6,g7,g8,gF,p⟩:=bA q m t.2;obtain rfl:val=_:=by simpa using g6
  have hlk:e=L/\l.length=n.toNat:=by
   rcases C with ⟨f,R,i,rfl⟩|⟨f,k0,R,i,rfl⟩
   .rw[Box.eu f i] at r;obtain⟨rfl,rfl⟩:=cg (aR r);exact⟨rfl,KY G M O⟩
   .rw[Box.rS f i] at r;obtain⟨rfl,rfl⟩:=cg (aR r);rcases p with p|⟨x,c,p,y⟩
    .subst p;exact⟨rfl,by simp[sub]⟩
    .obtain⟨cur,tid,fr,s,q2,S,q5,q7⟩:=((h.ok.boxes b J q).row p).2 _ _ R f i;exact⟨rfl,KY G M (by rw[S];exact O)⟩
  obtain⟨bK,D,u,X,Y⟩:=FV h q r z;refine⟨bK,D,u,o.data u.I λx E T g j Z=>?_⟩;rcases p with p|⟨U,c,p,y⟩
  .grind
  .injection g with s q2 S
   rw[y] at s;injection s with s
   injection s with s q4
   have:(V.toNat+n.toNat)*e.size<=k*e.size:=ic _ ai
   grind
def DZ{e v l b}(h:jM e σ v=ab l)(k:freeze σ b=ab ba):jM e ba v=ab l:=by
 have z:∀c j,σ.mem c=ab j->∃r,ba.mem c=ab { j with ro:=r }:=by
  intro c j q;unfold freeze at k;split at k
  .rename_i p t;cases m:p.ro with
   | true=>simp only[m,z6,Lt] at k;subst k;exact⟨j.ro,q⟩
   | false =>
     cases o:p.lk with
     | true=>simp[m,o] at k
     | false =>
       simp only[m,o,FA,Lt] at k;subst k;by_cases e:c=b
       .subst e;rw[t] at q;obtain rfl:=aR q;exact⟨true,by simp[St.ch,o]⟩
       .exact⟨j.ro,by simp[St.ch,kr e,q]⟩
  .cases k
 rcases n8 h with rfl|⟨rfl,rfl⟩|⟨c,u,j,rfl,x,g,f,i⟩|⟨c,u,C,n,j,rfl,x,g,y⟩
 .exact h
 .rfl
 .obtain⟨r,s⟩:=z c j x;simp only[jM,s,g,f,i,adW];simp[toL,Ty.beq_refl]
 .obtain⟨r,s⟩:=z c j x;rcases y with ⟨f,A,i,rfl⟩|⟨f,D,A,i,rfl⟩
  .simp only[jM,s,g,f,i,adW,z6];simp[toL,Ty.beq_refl]
  .simp only[jM,s,g,f,i];simp[toL,Ty.beq_refl]
def FX{s r p q x}(h:sP σ (.pair s r) (.mix p q)=ab x):∃(y:s.den) (z:r.den),sP σ s p=ab y/\sP σ r q=ab z/\x=(y,z):=by
 replace h:(match sP σ s p,sP σ r q with
  | some x,ab y=>ab _
  | _,_=>ah)=ab x:=h
 grind
def Qs{s r p q y z}(b:sP σ s p=ab y)(c:sP σ r q=ab z):sP σ (.pair s r) (.mix p q)=ab ((y,z):(Ty.pair s r).den):=by
 show(match sP σ s p,sP σ r q with
  | some x,ab y=>ab _
  | _,_=>ah)=ab _
 grind
def xY{p q}(h:jx σ (.mix p q)=ab ba):∃b6,jx σ p=ab b6/\jx b6 q=ab ba:=by
 unfold jx at h
 grind
def ra{t}:∀{x},sP σ t .uK=ab x->(∀w I,bZ w I t x [.nilIface])/\(∀τ,sP τ t .uK=ab x)/\cY t [.nilIface]=.nilIface/\t.isAgg=false:=by
 induction t with
 | alt u a r g c =>
   intro x h;have h:(match sP σ r .uK with|some x=>ab (Sum.inr x)|none=>ah)=ab x:=h;cases f:sP σ r .uK with
   | none=>rw[f] at h;cases h
   | some y =>
     rw[f] at h;obtain rfl:=aR h;obtain⟨i,l,j,k⟩:=c f;refine⟨λw I=>i w I,λτ=>?_,j,k⟩;show(match sP τ r .uK with|some x=>ab _|none=>ah)=_
     grind
 | BH=>intro x h;exact⟨λw I=>rfl,λτ=>rfl,rfl,rfl⟩
 | slice e=>intro x h;cases h
 | pair a b=>intro x h;cases h
 | _=>intro x h;cases h
def UD:∀{v t x σ ba u},sP σ t v=ab x->jx σ u=ab ba->sP ba t v=ab x:=by
 have one:∀{u e v l σ ba},jM e σ v=ab l->jx σ u=ab ba->jM e ba v=ab l:=by
  intro u;induction u with
  | mix p q f g =>
    intro e v l σ ba h c;simp only[jx] at c
    grind
  | whole b aV=>intro e v l σ ba h c;exact DZ h c
  | part b aV lo n=>intro e v l σ ba h c;exact DZ h c
  | _=>intro e v l σ ba h c;obtain rfl:=aR c;exact h
 intro v;induction v with
 | data u y =>
   intro t x σ ba u h c;cases t with
   | slice e=>exact one h c
   | _=>exact h
 | mix p q f g =>
   intro t x σ ba u h c;cases t with
   | pair s r =>
     obtain⟨y,z,i,j,rfl⟩:=FX h;exact Qs (f i c) (g j c)
   | slice e=>exact one h c
   | _=>cases h
 | uK=>intro t x σ ba u h c;exact(ra h).2.1 _
 | _ =>
   intro t x σ ba u h c;cases t with
   | slice e=>exact one h c
   | _=>cases h
def I9{γ mem v cs}(h:cM γ mem w v .cells cs)(b:en v=1):∃c,cs=[c]:=by
 have:=h.length;rw[b] at this;exact ZB.1 this
def Xs:∀{v t x cs σ ba γ a},dK B N γ σ a w->cM γ σ.mem w v .cells cs->sP σ t v=ab x->jx σ v=ab ba ->
  ∃bK,dK B N bK ba a w/\Ext B γ σ.mem w bK ba.mem w/\bZ w bK.I t x cs:=by
 have A:∀{v e l cs σ ba γ a},en v=1->(∀c,cM γ σ.mem w v .cells [c]->cM γ σ.mem w v .val [c])->dK B N γ σ a w->cM γ σ.mem w v .cells cs->jM e σ v=ab l->jx σ v=ab ba ->
   ∃bK,dK B N bK ba a w/\Ext B γ σ.mem w bK ba.mem w/\bZ w bK.I (.slice e) l cs:=by
  intro v e l cs σ ba γ a C m h i f j;obtain⟨c,rfl⟩:=I9 i C;exact FW h (m c i) f j
 intro v;induction v with
 | data u y =>
   intro t x cs σ ba γ a h i f j;obtain rfl:=aR j;have key:(∃q:u=t,x=q▸y):=by
    cases t with
    | slice e =>
      rcases n8 f with g|⟨g,_⟩|⟨_,_,_,g,_⟩|⟨_,_,_,_,_,g,_⟩
      .injection g with L M;subst L;exact⟨rfl,(eq_of_heq M).symm⟩
      .cases g
      .cases g
      .cases g
    | _=>exact Ty.l5 f
   obtain⟨q,D⟩:=key;subst q;subst D;exact⟨γ,h,Ext.refl _ _ _ _,i⟩
 | mix p q E F =>
   intro t x cs σ ba γ a h i f j;cases t with
   | pair s r =>
     obtain⟨O,Q,rfl,C,R⟩:=i;obtain⟨y,z,S,D,rfl⟩:=FX f;obtain⟨b6,o,G⟩:=xY j;obtain⟨T,U,K,V⟩:=E h C S o;obtain⟨H,W,J,X⟩:=F U (R.ext K) (UD D o) G;exact⟨H,W,K.trans J,O,Q,rfl,bZ.mono J.I J.cells V,X⟩
   | slice e=>exact absurd f cm
   | _=>cases f
 | pT =>
   intro t x cs σ ba γ a h i f j;cases t with
   | slice e=>exact A (v:=.pT) rfl (λc k=>k) h i f j
   | _=>cases f
 | whole b aV =>
   intro t x cs σ ba γ a h i f j;cases t with
   | slice e=>exact A (v:=.whole b aV) rfl (λc k=>k) h i f j
   | _=>cases f
 | part b aV lo n =>
   intro t x cs σ ba γ a h i f j;cases t with
   | slice e=>exact A (v:=.part b aV lo n) rfl (λc k=>k) h i f j
   | _=>cases f
 | uK =>
   intro t x cs σ ba γ a h i f j;obtain rfl:=aR j;obtain rfl:cs=[.nilIface]:=i;exact⟨γ,h,Ext.refl ..,(ra f).1 _ _⟩
 | _ =>
   intro t x cs σ ba γ a h i f j;cases t with
   | slice e=>exact absurd f cm
   | _=>cases f
def n9{t x v val}(h:dK B N γ σ a w)(f:cM γ σ.mem w v .val [val])(g:BW σ t v=ab (x,ba)) :
  ∃bK,dK B N bK ba a w/\Ext B γ σ.mem w bK ba.mem w/\cM bK ba.mem w (.data t x) .val [val]:=by
 unfold BW at g;split at g
 .rename_i u y;split at g
  .rename_i H o;obtain⟨rfl,rfl⟩:=cg (aR g);obtain⟨q,z⟩:=Ty.l5 o;subst q;subst z;exact⟨γ,h,Ext.refl _ _ _ _,f⟩
  .cases g
 .split at g
  .rename_i y b6 c l;obtain⟨rfl,rfl⟩:=cg (aR g);cases v with
   | data u A=>rename_i m;exact absurd rfl (m u A)
   | mix p q =>
     obtain⟨C,D,E,F,G⟩:=f;obtain rfl:val=_:=by simpa using E
     obtain⟨bK,i,j,k⟩:=Xs h (show cM γ σ.mem w (.mix p q) .cells _ from⟨C,D,rfl,F,G⟩) c l;refine⟨bK,i,j,_,k,?_⟩;cases t with
     | pair s r=>rfl
     | slice e=>exact absurd c cm
     | _=>cases c
   | pT =>
     cases t with
     | slice e=>obtain⟨bK,i,j,k⟩:=FW h f c l;exact⟨bK,i,j,_,k,rfl⟩
     | _=>cases c
   | whole b aV =>
     cases t with
     | slice e=>obtain⟨bK,i,j,k⟩:=FW h f c l;exact⟨bK,i,j,_,k,rfl⟩
     | _=>cases c
   | part b aV lo n =>
     cases t with
     | slice e=>obtain⟨bK,i,j,k⟩:=FW h f c l;exact⟨bK,i,j,_,k,rfl⟩
     | _=>cases c
   | uK =>
     obtain rfl:=aR l;obtain f:[val]=[Value.nilIface]:=f;obtain rfl:val=.nilIface:=by simpa using f
     exact⟨γ,h,Ext.refl ..,[.nilIface],(ra c).1 _ _,by rw[(ra c).2.2.1]⟩
   | _ =>
     cases t with
     | slice e=>exact absurd c cm
     | _=>cases c
  .cases g
end
end Go.Ge
namespace Go.Ge
open RowKit
section
variable {P:Program} {B:BI} {N:Nat} {γ:Gh} {σ ba:St} {a:Act} {w:World} {d:Option Nat} {cx:Ctx}
def Xt{b:Box}{k c v f}(l:b.buf=false)(m:b.val=v)(h:(LL v k f).run=ab c):({ b with val:=c }:Box).row=b.row:=by
 obtain⟨i,tid,o,s,u,r⟩:=b;subst l;subst m;cases i with
 | data t x =>
   obtain⟨y,j,g⟩:=bind_some h;obtain rfl:=aR g;cases t with
   | arr n e=>cases k<;>exact absurd j cm
   | _=>rfl
 | mix p q =>
   cases k with
   | zero =>
     obtain⟨y,j,g⟩:=bind_some h;obtain rfl:=aR g;rfl
   | succ k =>
     obtain⟨y,j,g⟩:=bind_some h;obtain rfl:=aR g;rfl
 | _=>exact absurd h cm
def ag4{bx:Box}{e:Ty}{l:List e.den}{i y}(b:bx.buf=true)(c:bx.val=.data (.slice e) l):({ bx with val:=.data (.slice e) (lS l i y) }:Box).row=bx.row:=by
 rw[Box.eu b c,Box.eu (bx:={ bx with val:=.data (.slice e) (lS l i y) }) b rfl];simp[lS]
def Ja{f:Box}{p v c}(h:(RJ f.buf p f.val v).run=ab c)(o:p=[]->f.buf=false->({ f with val:=v }:Box).row=f.row) :
  ({ f with val:=c }:Box).row=f.row:=by
 unfold RJ at h;split at h
 .rename_i b;cases p with
  | nil=>obtain rfl:=aR h;exact o rfl b
  | cons s p =>
    cases s with
    | gD k off=>exact Xt b rfl h
    | idx i size =>
      simp only[z7] at h;split at h
      .rename_i n e l j;obtain⟨x,q,m⟩:=cp h;obtain⟨z,r,g⟩:=bind_some m;split at g
       .obtain rfl:=aR g;rw[Box.rS b j];exact Box.rS b rfl
       .exact absurd g cm
      .exact absurd h cm
 .rename_i b;split at h
  .rename_i i size p e l j;obtain⟨x,q,m⟩:=cp h;obtain⟨z,r,g⟩:=bind_some m;split at g
   .obtain rfl:=aR g;exact ag4 b j
   .exact absurd g cm
  .exact absurd h cm
def D0(h:dK B N γ σ a w){b aV p fit u es}(H:(storeAt b aV p fit u σ).run=ab ba)(hu:cM γ σ.mem w u .cells es)
  (L:∀A,fit A=true->es.length=en A) (aen:∀C:Box,fit C.val=true->C.buf=false->({ C with val:=u }:Box).row=C.row)
  {blk cap} (J:γ.loc b=ab (blk,cap)) :
  ∃w',(storeCells ⟨blk,eF p,ah⟩ es).run P w=.ok () w'/\dK B N γ ba a w'/\Ext B γ σ.mem w γ ba.mem w':=by
 unfold storeAt at H;split at H
 case h_2=>exact absurd H cm
 rename_i C hb;obtain⟨hc,hr2⟩:=aJ H;simp at hc;obtain⟨⟨aoy,hlk⟩,M⟩:=hc;obtain⟨A,r,hr3⟩:=bind_some hr2;obtain⟨O,hr4⟩:=aJ hr3;obtain⟨c,K,hr5⟩:=bind_some hr4;obtain rfl:=aR hr5;have D:=L A O;have Q:=Ja K λhp g=>by
  subst hp;rw[g] at r;obtain rfl:=aR r
  grind
 have m:=h.ok.boxes b C hb;unfold fu at m;have hbb:C.buf=false\/C.buf=true:=by cases C.buf<;>simp
 rcases hbb with g|g
 .rw[g] at m r K;obtain⟨R,S,f,tid,T,h1,h2,F,n,U⟩:=m;rw[J] at h1;obtain⟨rfl,rfl⟩:=cg (aR h1);obtain⟨k1,k2⟩:=xX U r;have o:eF p+es.length<=f.toList.length:=by rw[D];exact k1
  have V:(bh f.toList (eF p) es).toArray.size=f.size:=by have:=bT o;simpa using this
  obtain⟨m1,W⟩:=h.ok.write hb M J h2 (cur':=(bh f.toList _ es).toArray) V Q
   (λw' cT t hg=>by
    simp only[g];exact⟨blk,cap,_,tid,T,J,hg,F.same V,n,by simpa using Ag (U.ext t) r K (hu.ext t) D⟩)
  exact⟨_,(dw (P:=P) blk _ tid T es 0 f w h2 F (by simpa using o) λv hv=>hu.one v hv),h.go W m1,W⟩
 .rw[g] at m r K;obtain⟨e,l,h1,h2,F⟩:=m;rw[h1] at r K;rcases F with ⟨F,_⟩|⟨R,S,f,tid,T,F,U,h5,n,h6,h7,h8,h9⟩
  .grind
  .rw[J] at F;obtain⟨rfl,rfl⟩:=cg (aR F);cases p with
   | nil=>cases r
   | cons s p =>
     cases s with
     | gD k off=>cases r
     | idx i size =>
       obtain⟨hsb,hn2⟩:=aJ r;obtain⟨x,t,X⟩:=cp hn2;obtain⟨x',hx',hs2⟩:=cp K;obtain rfl:x=x':=aR (t.symm.trans hx');obtain⟨z,hq,E⟩:=bind_some hs2;cases hz:toS e z with
       | none=>rw[hz] at E;cases E
       | some y =>
         rw[hz] at E;obtain rfl:=aR E;obtain⟨h0,Y⟩:=uL t;have H:=h9 _ x Y;have hi:=(ib.1 Y).1;have hm2:(i.toNat+1)*e.size<=cap*e.size:=ic _ ai;rw[JY] at hm2;have Z:cM γ σ.mem w (.data e x) .cells _:=H;obtain⟨k1,k2⟩:=xX Z X;rw[H.length] at k1;have hcs:f.toList.length=cap*e.size:=by simpa using h8
         have G:eF (.idx i size::p)=i.toNat*e.size+eF p:=by simp only[eF,(ja hsb)]
         have o:eF (.idx i size::p)+es.length<=f.toList.length:=by rw[G];omega
         have q:(bh f.toList (eF (.idx i size::p)) es).toArray.size=f.size:=by have:=bT o;simpa using this
         obtain⟨m1,W⟩:=h.ok.write hb M J U (cur':=(bh f.toList _ es).toArray) q Q
          (λw' cT t hg=>by
           simp only[g];refine⟨e,_,rfl,h2,.inr ⟨blk,cap,_,tid,T,J,hg,h5.same q,n,jb (DW adN) h6,h7,by rw[q];exact h8,?_⟩⟩
           .have hzz:=KX hz (Ag (Z.ext t) X hq (hu.ext t) D);have:=L1 rfl (by rw[hcs];exact ic _ h6)
             (λj x hj=>bZ.mono t.I t.cells (h9 j x hj)) hi hzz
            rw[(tT f.toList _ _ e.size es (by rw[D];exact k1) ai),<-G] at this;exact this)
         exact⟨_,(dw blk _ tid T es 0 f w U h5.th (by simpa using o) λv hv=>hu.one v hv),h.go W m1,W⟩
def abg{mem}:∀{t x cs},bZ w γ.I t x cs->cM γ mem w (ad5 t x) .cells cs:=by
 intro t;induction t with
 | pair a b f c=>intro x cs h;obtain⟨g,i,e,j,k⟩:=h;exact⟨g,i,e,j,c k⟩
 | _=>intro x cs h;exact h
def Qt{mem v cs}(h:cM γ mem w v .cells cs):cM γ mem w (ad6 v) .cells cs:=by
 cases v with
 | data t x=>exact abg h
 | _=>exact h
def UE{bx:Box}(e:bx.buf=false)(c:ad9 bx.val=true):bx.row=none:=by
 unfold Box.row;rw[e];obtain⟨b,tid,f,h,i,g⟩:=bx;cases b with
 | data t x=>cases t<;>first|rfl|cases c
 | mix p q=>rfl
 | _=>cases c
def OO(h:dK B N γ σ a w){b aV p n u es}(q:(tO b aV p n u σ).run=ab ba)(E:cM γ σ.mem w u .cells es)
  (i:es.length=n) {blk cap} (r:γ.loc b=ab (blk,cap)) :
  ∃w',(storeCells ⟨blk,eF p,ah⟩ es).run P w=.ok () w'/\dK B N γ ba a w'/\Ext B γ σ.mem w γ ba.mem w':=by
 unfold tO at q;split at q
 case h_2=>exact absurd q cm
 rename_i bx F;obtain⟨G,s⟩:=aJ q;simp at G;obtain⟨⟨⟨⟨H,U⟩,t⟩,e⟩,x⟩:=G;obtain⟨V,I,y⟩:=bind_some s;obtain⟨j,z⟩:=aJ y;obtain⟨c,W,A⟩:=bind_some z;obtain⟨C,D⟩:=aJ A;obtain rfl:=aR D;have k:=i.trans (ja j).symm;have g:=h.ok.boxes b bx F;unfold fu at g;rw[e] at g;obtain⟨J,K,f,tid,L,M,O,Q,l,R⟩:=g;rw[r] at M;obtain⟨rfl,rfl⟩:=cg (aR M);obtain⟨X,k2⟩:=xX (Qt R) I;have m:eF p+es.length<=f.toList.length:=by rw[k];exact X
 have o:(bh f.toList (eF p) es).toArray.size=f.size:=by have:=bT m;simpa using this
 obtain⟨m1,S⟩:=h.ok.write F t r O (cur':=(bh f.toList _ es).toArray) o ((UE (bx:={ bx with val:=c }) e C).trans (UE e x).symm)
  (λw' cT T Y=>by
   simp only[e];exact⟨blk,cap,_,tid,L,r,Y,Q.same o,l,by simpa using Ag (Qt<|R.ext T) I W (E.ext T) k⟩)
 exact⟨_,(dw blk _ tid L es 0 f w O Q (by simpa using m) λv Z=>E.one v Z),h.go S m1,S⟩
def B7{ty blk off n v w'}(b:(Go.sizeOf ty).run P w=.ok n w)(e:v.cells.toList.length=n)(c:(storeCells ⟨blk,off,ah⟩ v.cells.toList).run P w=.ok () w') :
  (Instr.storeAt ty (.pointer<|some ⟨blk,off,ah⟩) v).run P w=.ok () w':=by
 simp only[Instr.storeAt,Instr.sureAddr,storeVar,Sem.run_bind,Sem.run_pure,Result.andThen_ok,b]
 grind
def J4(D:fX P cx){bf ty x y}(h:dK B N γ σ a w)(E:(mZ cx bf ty (dv σ x) (dv σ y) σ).run=ab ba) :
  ∃w' bK,(Instr.storeAt ty (a.eval x)<|a.eval y).run P w=.ok () w'/\dK B N bK ba a w'/\Ext B γ σ.mem w bK ba.mem w':=by
 have hv:=h.dv x;have hy:=h.dv y;unfold mZ at E;split at E
 case h_2=>exact absurd E cm
 rename_i b aV p hx;rw[hx] at hv;split at E
 case h_2=>exact absurd E cm
 rename_i o Z;obtain⟨F,M⟩:=aJ E;obtain⟨s,hn,A⟩:=bind_some M;obtain⟨O,Q,hl,l⟩:=bA Z (ja F) hv.2;obtain l:a.eval x=_:=by simpa using l
 rw[l];split at A
 .rename_i u z;obtain⟨r,f⟩:=aJ A;have r:=jN r;have hD:=D.T _ _ r;cases R:dz bf 8000000&&ad8 u _ with
  | true =>
    rw[R] at f;have how:=(Bool.and_eq_true_iff.1 R).2;have m:cM γ σ.mem w (dv σ y) .cells (a.eval y).cells.toList:=by
     refine hy.oQ (λu' e=>?_) (λe=>?_)
     .rw[e] at how;cases how
     .rw[e] at how;cases how
    have C:en (dv σ y)=u.size:=by
     unfold ad8 at how;split at how
     .rename_i e;rw[e];exact abd how
     .rename_i e;rw[e];exact L9 how
     .grind
    have c:(a.eval y).cells.toList.length=u.size:=by rw[m.length,C]
    obtain⟨w',K,G,H⟩:=OO h f m c hl;exact⟨w',γ,B7 (hD.sizeOf w) c K,G,H⟩
  | false =>
  rw[R] at f;split at f
  .rename_i y0 b6 hg;obtain⟨I,s1,s2,s3⟩:=n9 h hy hg;obtain⟨cs,L,c2⟩:=s3;obtain S:a.eval y=_:=by simpa using c2
   have U:(a.eval y).cells.toList=cs:=by rw[S];exact tS L
   obtain⟨V,g1,g2,g3⟩:=s2.boxes b o Z;have W:I.loc b=ab (O,Q):=by
    have hv':V.aV=o.aV:=by
     unfold storeAt at f;split at f
     .rename_i bx2 hb2;obtain⟨D,_⟩:=aJ f;simp_all
     .grind
    grind
   obtain⟨w',K,G,H⟩:=D0 (P:=P) s1 f L (λs g=>by
    unfold ai4 at g;split at g
    .rename_i t q;obtain rfl:=Ty.eq_of_beq g;exact L.length
    .cases g) (λo g i=>by
    unfold ai4 at g;split at g
    .rename_i t q J;obtain rfl:=Ty.eq_of_beq g;cases t with
     | arr n e=>rw[Box.rS i J];exact Box.rS i rfl
     | _=>unfold Box.row;rw[i,J]
    .cases g) W
   refine⟨w',I,B7 (hD.sizeOf w) ?_ ?_,G,s2.trans H⟩
   .rw[U];exact L.length
   .grind
  .exact absurd f cm
 .obtain⟨r,f⟩:=aJ A;simp at r;obtain⟨X,k⟩:=r;have key:∀{v},z8 cx ty v=true->isRef v=true->en v=1/\(Go.sizeOf ty).run P w=.ok 1 w:=by
   intro v j Y;unfold z8 at j;split at j
   .cases Y
   .split at j
    .rename_i e r;exact⟨rfl,(D.T _ _ r).sizeOf w⟩
    .cases j
   .exact⟨rfl,(D.rC _ j).2.1 w⟩
   .exact⟨rfl,(D.rC _ j).2.1 w⟩
   .exact⟨rfl,(D.rC _ j).2.1 w⟩
   .cases j
  obtain⟨j,C⟩:=key X k;have m:cM γ σ.mem w (dv σ y) .cells (a.eval y).cells.toList:=by
   refine hy.oQ (λu e=>?_) (λe=>?_)
   .rw[e] at k;cases k
   .rw[e] at k;cases k
  have c:(a.eval y).cells.toList.length=1:=by rw[m.length,j]
  obtain⟨w',K,G,H⟩:=D0 h f m (λs g=>by
   simp at g;rcases g with g|g
   .rw[c,(key g.1 g.2).1]
   .rw[c];cases s<;>first|rfl|cases g) (λo g i=>by
   simp at g;have e1:∀{v} {o:Box},(isRef v=true\/ZY v=true)->o.buf=false->o.val=v->o.row=none:=by
    intro v o j Y h3;unfold Box.row;rw[Y,h3];cases v<;>first|rfl|(rcases j with j|j<;>cases j)
   rw[e1 (g.elim (λq=>.inl q.2) .inr) i rfl];exact e1 (.inl k) i rfl) hl
  exact⟨w',γ,B7 C c K,G,H⟩
def tl t v:(newVar t v).run P w=.ok ⟨w.heap.size,0,ah⟩ (w.alloc<|.cells v.cells t):=by
 simp[newVar,newRow]
def C6{mem w' b c cap}:cM (bU γ b<|some (w.heap.size,cap)) (dq mem b c) w' (.ptr b c.aV []) .val [.pointer<|some ⟨w.heap.size,0,ah⟩] :=
 ⟨⟨_,rfl,rfl⟩,gS (bJ _ _) rfl ⟨w.heap.size,cap,by simp[bU],rfl⟩⟩
def UF(j:fX P cx){b:TypeId}{nb k t}(h:dK B N γ σ a w)(l:k<N)(m:find cx.T b=ab t)
  (n:(σ.bF (nb+k) (.data t t.zero) 0 false λc σ=>.ret (σ.put k<|.ptr (nb+k) c [])).run=ab ba) :
  oR P B N γ σ a w (ab k) (Instr.alloc b true<|.tuple #[]) ba:=by
 obtain⟨c,e,f⟩:=ez n;obtain rfl:=aR f;obtain⟨z,o,g⟩:=(j.T _ _ m).zero w;obtain⟨m1,i⟩:=h.ok.newVar (v:=.data t t.zero) e b (.inl rfl) (by rw[g];exact oP w γ.I t);refine⟨.pointer _,_,_,?_,h.step i m1 l C6,i⟩;simp only[Instr.alloc,Sem.run_bind,o,Result.andThen_ok,tl,Sem.run_pure]
def J5(j:fX P cx){b:TypeId}{nb k}(h:dK B N γ σ a w)(l:k<N)(m:dz cx.rC b=true)
  (n:(σ.bF (nb+k) .undef 0 false λe σ=>.ret (σ.put k<|.ptr (nb+k) e [])).run=ab ba) :
  oR P B N γ σ a w (ab k) (Instr.alloc b true<|.tuple #[]) ba:=by
 obtain⟨e,f,g⟩:=ez n;obtain rfl:=aR g;obtain⟨z,o,c⟩:=(j.rC _ m).2.2;obtain⟨m1,i⟩:=h.ok.newVar (v:=.undef) f (cs:=z.cells) b (.inl rfl) ⟨z,by cases z<;>first|rfl|(simp[Value.oneCell'] at c),c⟩;refine⟨.pointer _,_,_,?_,h.step i m1 l C6,i⟩;simp only[Instr.alloc,Sem.run_bind,o,Result.andThen_ok,tl,Sem.run_pure]
def UG{b aV}:∀{A j σ γ r},bN B γ σ.mem w->(mkObj b aV A j σ).run=ab r ->
  ∃c,bN B c r.2.mem w/\Ext B γ σ.mem w c r.2.mem w/\r.2.br=σ.br /\
   ∀bK cT w',Ext B c r.2.mem w bK cT w'->(∃bx l m,cT b=ab bx/\aV<=bx.aV/\bK.loc b=ab (l,m))->cM bK cT w' r.1 .cells (LX A):=by
 intro A;induction A with
 | nil=>intro j σ γ r h x;obtain rfl:=aR x;exact⟨γ,h,Ext.refl _ _ _ _,rfl,λ_ _ _ _ _=>rfl⟩
 | cons f r C =>
   intro j σ γ q h x;cases f with
   | dat t =>
     obtain⟨y,n,o⟩:=bind_some x;obtain rfl:=aR o;obtain⟨c,p,g,s,u⟩:=C h n;exact⟨c,p,g,s,λbK cT w' i k=>⟨_,_,rfl,oP _ _ t,u bK cT w' i k⟩⟩
   | one =>
     obtain⟨y,n,o⟩:=bind_some x;obtain rfl:=aR o;obtain⟨c,p,g,s,u⟩:=C h n;exact⟨c,p,g,s,λbK cT w' i k=>⟨[.pointer ah],_,rfl,rfl,u bK cT w' i k⟩⟩
   | self =>
     obtain⟨y,n,o⟩:=bind_some x;obtain rfl:=aR o;obtain⟨c,p,g,s,u⟩:=C h n;refine⟨c,p,g,s,λbK cT w' i k=>⟨[.pointer ah],_,rfl,?_,u bK cT w' i k⟩⟩;obtain⟨bx,l,m,G,H,I⟩:=k;exact⟨⟨_,rfl,rfl⟩,bx,G,H,λ_=>⟨l,m,I,.inl rfl⟩⟩
   | buf e J =>
     obtain⟨K,D⟩:=aJ x;have E:0<e.size:=by simpa using K
     obtain⟨v,z,F⟩:=ez D;obtain⟨y,n,o⟩:=bind_some F;obtain rfl:=aR o;obtain⟨m1,L⟩:=h.L3 z E;obtain⟨c,p,g,s,u⟩:=C m1 n;refine⟨c,p,L.trans g,s,λbK cT w' i k=>⟨[.slice ah 0 0],_,rfl,?_,u bK cT w' i k⟩⟩;refine cM.ext (g.trans i) ?_;exact⟨⟨_,rfl,rfl⟩,gS (bJ _ _) rfl ⟨e,0,rfl,rfl,.inl ⟨by simp[bU],rfl⟩⟩⟩
def J6(s:fX P cx){b:TypeId}{nb k p}(h:dK B N γ σ a w)(t:k<N)(u:find cx.sO b=ab p)
  (v:((mkObj (nb+k) (KQ σ<|nb+k) p 0 σ).bind λr=>r.2.bF (nb+k) r.1 b false λaV σ=>.ret (σ.put k<|.ptr (nb+k) aV [])).run=ab ba) :
  oR P B N γ σ a w (ab k) (Instr.alloc b true<|.tuple #[]) ba:=by
 obtain⟨r,x,y⟩:=bind_some v;obtain⟨f,g,i,A,C⟩:=UG h.ok x;obtain⟨aV,c,j⟩:=ez y;obtain rfl:=aR j;obtain⟨z,D,l⟩:=aa8 (s.sO _ _ u) w;have m:KQ σ (nb+k)<=aV:=by
  unfold KQ;split
  .rename_i bx n;obtain⟨E,G,H,_⟩:=i.boxes _ bx n
   grind
  .grind
 let bx:Box:={ val:=r.1,tid:=b,buf:=false,ro:=false,lk:=false,aV }
 have q:wL B w (w.alloc<|.cells z.cells b):=(wL.refl _ _).alloc g.base _;have hx:=vU (L:=ab (w.heap.size,0)) g (bx:=bx) c q (dc w _);have o:fu (bU f (nb+k)<|some (w.heap.size,0)) _ _ (nb+k) bx :=
  ⟨w.heap.size,0,z.cells,b,_,by simp[bU],heap_alloc_new w _,uM _,.inr rfl,by
   rw[l];exact C _ _ _ hx ⟨bx,w.heap.size,0,bJ _ _,m,by simp[bU]⟩⟩
 refine⟨.pointer<|some ⟨w.heap.size,0,ah⟩,_,_,?_,?_,i.trans hx⟩
 .simp only[Instr.alloc,Sem.run_bind,D,Result.andThen_ok,tl,Sem.run_pure]
 .have:=h.step (i.trans hx) (g.add c q (dc w _) (λF k e=>by obtain⟨rfl,rfl⟩:=cg (aR e);exact⟨cq _,aY⟩) o) t (C6);rw[<-A] at this;exact this
def Jb{b j v σ r}(c:(rJ b [] j v σ).run=ab r):r=(v,σ):=by
 cases v with
 | data t x=>cases t<;>first|(obtain rfl:=aR c;rfl)|cases c
 | _=>cases c
def FY{b j f q v σ r}(c:(rJ b (f::q) j v σ).run=ab r) :
  (∃x u y,v=.mix x u/\(rJ b q (j+1) u σ).run=ab y/\r=(.mix x y.1,y.2)) \/
  (∃e g u,v=.mix .pT u/\0<e.size/\(σ.bF (b*1000+999-j) (.data (.slice e) []) g true λh σ=>(rJ b q (j+1) u σ).bind λx=>.ret (.mix (.whole (b*1000+999-j) h) x.1,x.2)).run=ab r):=by
 cases v with
 | mix a u =>
   cases f with
   | dat t =>
     cases a with
     | data n z =>
       obtain⟨y,i,k⟩:=bind_some c;exact .inl ⟨_,u,y,rfl,i,(aR k).symm⟩
     | _=>cases c
   | one =>
     cases a with
     | uJ =>
       obtain⟨y,i,k⟩:=bind_some c;exact .inl ⟨_,u,y,rfl,i,(aR k).symm⟩
     | _=>cases c
   | buf e g =>
     cases a with
     | pT =>
       obtain⟨m,l⟩:=aJ c;exact .inr ⟨e,g,u,rfl,by simpa using m,l⟩
     | _=>cases c
   | self=>cases a<;>cases c
 | _=>cases f<;>cases c
def J7(p:fX P cx){b:TypeId}{nb k bf t}(h:dK B N γ σ a w)(q:k<N)(r:find cx.T b=ab t)
  (j:(wJ nb bf k t σ).run=ab ba):oR P B N γ σ a w (ab k) (Instr.alloc b true<|.tuple #[]) ba:=by
 unfold wJ at j;split at j
 .rename_i e _;obtain⟨x,l⟩:=aJ j;have m:0<e.size:=by simpa using x
  obtain⟨v,f,n⟩:=ez l;obtain⟨m1,s⟩:=h.ok.L3 (tid:=0) f m;obtain⟨y,c,o⟩:=ez n;obtain rfl:=aR o;obtain⟨i,z,A,G,C,D⟩:=(p.T _ _ r).info;have E:(zeroValue b).run P w=.ok z w:=by simp[zeroValue,typeInfo,A,C]
  have g:cM (bU γ ((nb+k)*1000+999) ah) (dq σ.mem ((nb+k)*1000+999) { val:=.data (.slice e) ([]),tid:=0,buf:=true,ro:=false,lk:=false,aV:=v }) w (.whole ((nb+k)*1000+999) v) .cells z.cells.toList:=by
   rw[D];exact⟨⟨_,rfl,rfl⟩,gS (bJ _ _) rfl ⟨e,0,rfl,rfl,.inl ⟨by simp[bU],rfl⟩⟩⟩
  obtain⟨F,u⟩:=m1.newVar c b (.inl rfl) g;refine⟨.pointer _,_,_,?_,h.step (s.trans u) F q C6,s.trans u⟩;simp only[Instr.alloc,Sem.run_bind,E,Result.andThen_ok,tl,Sem.run_pure]
 .exact UF p h q r j
def OP{b}:∀{m j v σ γ r cs},bN B γ σ.mem w->cM γ σ.mem w v .cells cs->(rJ b m j v σ).run=ab r ->
  ∃c,bN B c r.2.mem w/\Ext B γ σ.mem w c r.2.mem w/\r.2.br=σ.br/\cM c r.2.mem w r.1 .cells cs:=by
 intro m;induction m with
 | nil =>
   intro j v σ γ r cs h l n;obtain rfl:=Jb n;exact⟨γ,h,Ext.refl _ _ _ _,rfl,l⟩
 | cons f q G =>
   intro j v σ γ r cs h l n;rcases FY n with ⟨x,u,y,rfl,o,rfl⟩|⟨e,I,u,rfl,J,p⟩
   .obtain⟨s,t,rfl,z,A⟩:=l;obtain⟨c,C,g,D,E⟩:=G h A o;exact⟨c,C,g,D,s,t,rfl,z.ext g,E⟩
   .obtain⟨k,i,F⟩:=ez p;obtain⟨y,o,K⟩:=bind_some F;obtain rfl:=aR K;obtain⟨s,t,rfl,z,A⟩:=l;obtain⟨m1,H⟩:=h.L3 i J;obtain⟨c,C,g,D,E⟩:=G m1 (A.ext H) o;obtain rfl:s=[.slice ah 0 0]:=z;refine⟨c,C,H.trans g,D,[.slice ah 0 0],t,rfl,?_,E⟩;refine cM.ext g ?_;exact⟨⟨_,rfl,rfl⟩,gS (bJ _ _) rfl ⟨e,0,rfl,rfl,.inl ⟨by simp[bU],rfl⟩⟩⟩
def OQ{elem nb k x j}(h:dK B N γ σ a w)(l:k<N)(m:dv σ x≠.undef)(n:∀u,dv σ x≠.BN u)
  (o:((rJ (nb+k) j 0 (dv σ x) σ).bind λr=>r.2.bF (nb+k) r.1 elem false λb σ=>.ret (σ.put k<|.ptr (nb+k) b [])).run=ab ba) :
  oR P B N γ σ a w (ab k) (Instr.box elem<|a.eval x) ba:=by
 obtain⟨r,p,q⟩:=bind_some o;obtain⟨s,t,g,v,y⟩:=OP h.ok ((h.dv x).oQ n λe=>absurd e m) p;obtain⟨b,c,f⟩:=ez q;obtain rfl:=aR f;obtain⟨m1,i⟩:=t.newVar c elem (.inr rfl) y;refine⟨.pointer<|some ⟨w.heap.size,0,ah⟩,_,_,?_,?_,g.trans i⟩
 .simp only[Instr.box,Sem.run_bind,tl,Result.andThen_ok,Sem.run_pure]
 .have:=h.step (g.trans i) m1 l C6;rw[<-v] at this;exact this
def abh{elem nb k x}(h:dK B N γ σ a w)(i:k<N)(j:dv σ x≠.undef)(l:∀u,dv σ x≠.BN u)
  (m:(σ.bF (nb+k) (dv σ x) 0 false λb σ=>.ret (σ.put k<|.ptr (nb+k) b [])).run=ab ba) :
  oR P B N γ σ a w (ab k) (Instr.box elem<|a.eval x) ba:=by
 obtain⟨b,c,f⟩:=ez m;obtain rfl:=aR f;obtain⟨m1,g⟩:=h.ok.newVar c elem (.inl rfl) ((h.dv x).oQ l λe=>absurd e j);refine⟨.pointer _,_,_,?_,h.step g m1 i C6,g⟩;simp only[Instr.box,Sem.run_bind,tl,Result.andThen_ok,Sem.run_pure]
def ag6{mem}:∀{u v k vs},cM γ mem w u .many vs->nth u k=ab v->∃x,vs[k]?=ab x/\cM γ mem w v .val [x]:=by
 intro u;induction u with
 | mix p q f e =>
   intro v k vs h b;obtain⟨c,r,rfl,g,i⟩:=h;cases k with
   | zero=>obtain rfl:=aR b;exact⟨c,rfl,g⟩
   | succ k=>obtain⟨x,j,l⟩:=e i b;exact⟨x,by simpa using j,l⟩
 | _=>intro v k vs h b;exact absurd b cm
def OR{x k vs v}(h:dK B N γ σ a w)(e:∀k,d=ab k->k<N)(f:dv σ x=.BN vs)(g:nth vs k=ab v) :
  oR P B N γ σ a w d (Instr.extract (a.eval x) k) (σ.bD d v):=by
 have hv:=h.dv x;rw[f] at hv;obtain⟨b,c,i⟩:=hv;obtain c:a.eval x=_:=by simpa using c
 obtain⟨y,j,l⟩:=ag6 i g;refine bV h e ?_ l;rw[c];have:b[k]?=ab y:=by simpa using j
 simp only[Instr.extract,this,Sem.run_pure]
def aep:∀{ops:List Operand} {cs},dK B N γ σ a w->Hw (ops.map<|dv σ)=ab cs->cs.length=ops.length /\
  ∀(i:Nat) b aV,cs[i]?=ab (b,aV)->n0 σ.mem b aV λ_=>∃c g,γ.loc b=ab (c,g)/\(ops.map a.eval)[i]?=ab (.pointer<|some ⟨c,0,ah⟩):=by
 intro ops;induction ops with
 | nil=>intro cs h f;obtain rfl:=aR f;exact⟨rfl,λi b aV k=>by cases k⟩
 | cons o r q =>
   intro cs h f;have n:=h.dv o;unfold Hw at f;split at f
   .rename_i j;cases j
   .rename_i D p E j;injection j with s t
    subst t;rw[s] at n;cases l:Hw _ with
    | none=>rw[l] at f;cases f
    | some u =>
      rw[l] at f;obtain rfl:=aR f;obtain⟨v,F⟩:=q h l;refine⟨by simp[v],λi b aV k=>?_⟩;cases i with
      | zero =>
        obtain⟨rfl,rfl⟩:=cg (aR k);obtain⟨x,y,z,A⟩:=n.2;refine⟨x,y,z,λe=>?_⟩;obtain⟨c,g,C,m⟩:=A e;obtain m:a.eval o=_:=by simpa using m
        exact⟨c,g,C,by simp[m,eF]⟩
      | succ i =>
        grind
   .cases f
def Mb{f:Nat}{c:Array Operand}{cs}(h:dK B N γ σ a w)(g:∀k,d=ab k->k<N)(e:Hw (c.toList.map<|dv σ)=ab cs) :
  oR P B N γ σ a w d (Instr.makeFunc (.func f) #[] (c.map a.eval)) (σ.bD d<|.fn f cs):=by
 obtain⟨j,m⟩:=aep h e;refine bV h g rfl ?_;refine⟨c.map a.eval,rfl,by rw[j];simp,λi b l n=>?_⟩
 grind
end
end Go.Ge
