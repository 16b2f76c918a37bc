import Derived.Test.YtcebnmppipejfaaGreatDoorGeB
set_option linter.unusedVariables false
set_option linter.unusedSimpArgs false
set_option linter.unusedSectionVars false
set_option linter.defProp false
open Option renaming some->aa,none->af
open Sum renaming inr->aH
namespace Go.Ge
open RowKit
section
variable {P:Program} {B:DW} {N:Nat} {γ:Gh} {σ bb:St} {a:Act} {w:World} {d:Option Nat} {cx:Ctx}
def Mg{s b k f u}(e:P.underlying s=aa (.struct b))(g:b.toList[k]?=aa f)(h:Den P u f.type)(j:0<u.size) blk off :
  (Instr.fieldAt s (.pointer<|some ⟨blk,off,af⟩) k).run P w=.ok (.pointer<|some ⟨blk,off+f.offset,af⟩) w:=by
 have c:b[k]?=aa f:=by simpa using g
 have i:¬(u.size=0):=ai;simp only[Instr.fieldAt,Sem.run_bind,run_underlying e,Result.andThen_ok,c,Instr.sureAddr,Sem.run_pure,fieldPlace,h.sizeOf w,aK i,addr_add]
def VZ{s b k f i}(g:P.underlying s=aa (.struct b))(h:b.toList[k]?=aa f)(j:P.info? f.type=aa i)(m:0<i.size) blk off :
  (Instr.fieldAt s (.pointer<|some ⟨blk,off,af⟩) k).run P w=.ok (.pointer<|some ⟨blk,off+f.offset,af⟩) w:=by
 have c:b[k]?=aa f:=by simpa using h
 have l:¬(i.size=0):=ai;have e:(Go.sizeOf f.type).run P w=.ok i.size w:=by simp[Go.sizeOf,typeInfo,j]
 simp only[Instr.fieldAt,Sem.run_bind,run_underlying g,Result.andThen_ok,c,Instr.sureAddr,Sem.run_pure,fieldPlace,e,aK l,addr_add]
def Hy{t s}(g:Den P t s){k u o}(e:zz t k=aa u)(h:kj t k=aa o) :
  ∃(c:Array Field) (f:Field),P.underlying s=aa (.struct c)/\c.toList[k]?=aa f/\f.offset=o/\Den P u f.type/\0<u.size:=by
 cases t with|pair a b =>(obtain⟨c,j,i,_⟩:=g.pair;obtain⟨f,l,m,n,p⟩:=i.at e h;grind)|_=>cases k<;>cases e
def Gu(G:fM P cx){s x k}(h:dz B N γ σ a w)(H:∀k,d=aa k->k<N)(r:(fl cx d s (dm σ x) k σ).run=aa bb) :
  pr P B N γ σ a w d (Instr.fieldAt s (a.eval x) k) bb:=by
 have hv:=h.dm x;unfold fl at r;split at r
 .rename_i u y I;rw[I] at hv;obtain⟨J,c⟩:=aD r;split at c
  {(rename_i o t z S;obtain rfl:=aU c;obtain⟨g,l,U,K,V,W⟩:=hv;obtain K:a.eval x=_:=by simpa using K);obtain⟨t',z',X,Y,Z,e4,e5⟩:=Hw V S;cases X;obtain⟨O,f,A,C,Q,D,E⟩:=Hy (G.T _ _<|jB J) Y Z;refine bU h H (by rw[K];exact Mg A C D E g l) ⟨g,l+f.offset,(U.drop o).take t.size,rfl,e5,λj v F=>?_⟩;rw[kh] at F;split at F;{rw[xw] at F;have:=W _ v F;grind};cases F};cases c
 .rename_i b aY p I;rw[I] at hv;obtain⟨J,c⟩:=aD r;obtain⟨R,m,n⟩:=ld J;split at c
  .rename_i t hT;split at c
   .rename_i l u L hu;obtain rfl:=aU c;obtain⟨g,q,M,e⟩:=bC m n hv.2;obtain e:a.eval x=_:=by simpa using e
    obtain⟨O,f,A,C,Q,D,E⟩:=Hy (G.T _ _ hT) hu L;refine bU h H (by rw[e];exact Mg A C D E g _) ⟨⟨_,rfl,rfl⟩,R,m,ai,λ_=>⟨g,q,M,?_⟩⟩;rw[Eg];simp[er]
   .cases c
  .split at c
   .rename_i O hO;split at c
    .rename_i l L;obtain rfl:=aU c;obtain⟨g,q,M,e⟩:=bC m n hv.2;obtain e:a.eval x=_:=by simpa using e
     obtain⟨gs,f,i,A,C,Q,D,E⟩:=ak3 (G.uu _ _ hO) L;refine bU h H (by rw[e];exact VZ A C D E g _) ⟨⟨_,rfl,rfl⟩,R,m,ai,λ_=>⟨g,q,M,?_⟩⟩;rw[Eg];simp[er]
    .cases c
   .cases c
 .cases r
def YC(i:fM P cx){e:TypeId}{k o u y v val}(j:find cx.T e=aa u)(l:cK γ σ.mem w (.data u y) .val [val])(m:xa (.data u y) k=aa (o,v)) :
  ∃z,(Instr.field e val k).run P w=.ok z w/\cK γ σ.mem w v .val [z]:=by
 obtain⟨cs,n,rfl⟩:=et.1 l;obtain⟨p,D,rfl,g,q,r,s⟩:=Hw n m;obtain⟨t,f,x,A,h,C,E⟩:=Hy (i.T _ _ j) g q;have b:u.isAgg=true:=by cases u<;>first|rfl|(cases k<;>cases g)
 refine⟨cX p _,?_,_,s,rfl⟩;have c:t[k]?=aa f:=by simpa using A
 simp only[cX,b,B9,Instr.field,Sem.run_bind,run_underlying x,Result.andThen_ok,c,asAgg,Sem.run_pure,(FF C (cs:=cs.toArray) (off:=f.offset) (by rw[h];simpa using r) vQ)];rw[h]
def oB{t b h}(j:P.underlying t=aa (.slice b))(l:(Go.sizeOf b).run P w=.ok h w)(c e f g:Nat) k {i:Int} (m:0<=i) (n:i<f) :
  (Instr.indexAt t (.slice (aa ⟨c,e,af⟩) f g)<|.int k i).run P w=.ok (.pointer<|some ⟨c,e+i.toNat*h,af⟩) w:=by
 simp only[Instr.indexAt,asIntOf,Sem.run_bind,Sem.run_pure,Result.andThen_ok,run_underlying j,Yo,m,n,zx,l,addr_add]
def Dt{t b c n}(e:P.underlying t=aa (.array n b))(f:(Go.sizeOf b).run P w=.ok c w) blk off k {i:Int} (g:0<=i) (h:i<n) :
  (Instr.indexAt t (.pointer<|some ⟨blk,off,af⟩)<|.int k i).run P w=.ok (.pointer<|some ⟨blk,off+i.toNat*c,af⟩) w:=by
 simp only[Instr.indexAt,asIntOf,Sem.run_bind,Sem.run_pure,Result.andThen_ok,run_underlying e,Instr.sureAddr,Yo,g,h,zx,f,addr_add]
def Ei{i n}(h:within i n=true):0<=i/\i<n:=by simp only[within,gC,zn] at h;exact h
def jQ{i j n}(h:inside i j n=true):0<=i/\i<=j/\j<=n:=by simp only[inside,gC,zn] at h;exact⟨h.1.1,h.1.2,h.2⟩
def IW{b aY e n}(h:Cc σ b aY=aa (e,n)):∃(i:Box) (k:Nat),σ.mem b=aa i/\i.aY=aY/\i.row=aa (e,k)/\n=k:=by
 unfold Cc at h;split at h
 {rename_i i j;cases c:Nat.beq i.aY aY with|false=>rw[c] at h;cases h|true =>rw[c] at h;split at h;{rename_i m l f g;obtain⟨rfl,rfl⟩:=b9 (aU h);exact⟨i,_,j,iN c,by rw[Box.row,f,g],rfl⟩};{rename_i o m l f g;obtain⟨rfl,rfl⟩:=b9 (aU h);exact⟨i,_,j,iN c,by rw[Box.row,f,g],rfl⟩};cases h};cases h
def Box.ec{bx:Box}{e:Ty}{l:List e.den}(b:bx.buf=true)(c:bx.val=.data (.slice e) l):bx.row=aa (e,l.length):=by rw[Box.row,b,c]
def Box.tc{b:Box}{e n l}(c:b.buf=false)(f:b.val=.data (.arr n e) l):b.row=aa (e,n):=by rw[Box.row,c,f]
def Ck(c:fM P cx){t e:Nat}(h:Uv cx t=aa e):P.underlying t=aa (.slice e)/\du cx.sL e=true:=by
 unfold Uv at h;split at h
 {cases h};split at h;{rename_i u f;cases b:du cx.sL u with|false=>rw[b] at h;cases h|true =>rw[b] at h;obtain rfl:=aU h;exact⟨c.Yp _ _ f,b⟩};cases h
def abz{b aY i}:∀{m k},(Pw d b aY σ i m k).run=aa bb->∃j,k<=j/\j<k+m/\i=j/\bb=σ.bF d (.ptr b aY [.gE j j]):=by intro m;induction m with|zero=>intro k c;cases c|succ m f =>intro k c;have e:=gH c;cases hi:aR i k with|true =>(rw[hi] at e;obtain rfl:=aU e;exact⟨k,b8 _,ai,by simpa [aR] using hi,rfl⟩)|false =>grind
def Mh{q}(h:Oo q=true):er q=0:=by
 unfold Oo at h;split at h
 {simp[er,iN h]};cases h
def xe(R:fM P cx){ty x S i}(h:dz B N γ σ a w)(Y:∀k,d=aa k->k<N)(A:(eL cx d ty (dm σ x) i σ).run=aa bb) :
  pr P B N γ σ a w d (Instr.indexAt ty (a.eval x)<|.int S i) bb:=by
 have hv:=h.dm x;unfold eL at A;split at A
 .rename_i u e l K F;rw[F] at hv;obtain⟨C,o⟩:=aD A;obtain rfl:=Ty.eq_of_beq C;obtain⟨y,hy,z⟩:=ck o;obtain rfl:=aU z;obtain⟨L,G⟩:=vO hy;obtain⟨M,H,I,k3,k4⟩:=(R.T _ _ K).slice;obtain⟨cs,E,t⟩:=et.1 hv;have hi:=(ga.1 G).1;rcases E with ⟨_,E⟩|⟨f,J,r,E,h2,h3,h4⟩;{grind};rw[E] at t;have U:a.eval x=.slice _ _ r:=t;obtain⟨es,g1,V,O⟩:=h4 _ y G;refine bU h Y (by rw[U];exact oB H (I.sizeOf w) f J _ r S L ai) ⟨f,J+i.toNat*u.size,es,rfl,O,λj v W=>?_⟩;grind
 .rename_i m u n e l K F;rw[F] at hv;obtain⟨C,o⟩:=aD A;simp only[gC] at C;obtain rfl:=Ty.eq_of_beq C.1;obtain rfl:=iN C.2;obtain⟨y,hy,z⟩:=ck o;obtain rfl:=aU z;obtain⟨L,G⟩:=vO hy;obtain⟨M,H,I,k3⟩:=(R.T _ _ K).arr;obtain⟨f,J,cs,E,h2,h3⟩:=hv;obtain E:a.eval x=_:=by simpa using E
  have hi:i.toNat<m:=by have:=(ga.1 G).1;have:=h2.1;omega
  refine bU h Y (by rw[E];exact Dt H (I.sizeOf w) f J S L ai) ⟨f,J+i.toNat*u.size,_,rfl,(h2.2.2 _ y G),λj v W=>?_⟩;rw[kh] at W;split at W;{rw[xw] at W;have:=h3 _ v W;grind};cases W
 .rename_i u b X K F;rw[F] at hv;split at A
  .rename_i e n he;obtain⟨C,o⟩:=aD A;obtain rfl:=Ty.eq_of_beq C;obtain⟨hw,z⟩:=cL o;obtain rfl:=aU z;obtain⟨L,E⟩:=Ei hw;obtain⟨Q,k,g,s,D,rfl⟩:=IW he;obtain⟨M,H,I,k3,k4⟩:=(R.T _ _ K).slice;obtain⟨e',n',g1,V,O⟩:=bC g s hv.2;rw[D] at V;obtain⟨rfl,rfl⟩:=b9 (aU V);rcases O with ⟨O,Z⟩|⟨f,r,O,Z⟩;{exfalso;have hat:=h.ok.boxes b Q g;rw[e7,g1] at hat;obtain⟨e2,l,j1,j2,j3⟩:=hat;rcases j3 with ⟨_,j4⟩|⟨_,_,_,_,_,j3,_⟩;{rw[Box.ec g1 j1] at D;grind};grind}
   .obtain Z:a.eval x=_:=by simpa using Z
    refine bU h Y (by rw[Z];exact oB H (I.sizeOf w) f 0 _ r S L E) ⟨⟨_,rfl,rfl⟩,Q,g,ai,λ_=>⟨f,r,O,by simp[er]⟩⟩
  .cases A
 .rename_i u b X lo n K F;rw[F] at hv;split at A
  .rename_i e n2 he;obtain⟨C,o⟩:=aD A;obtain rfl:=Ty.eq_of_beq C;obtain⟨hw,z⟩:=cL o;obtain rfl:=aU z;obtain⟨L,E⟩:=Ei hw;obtain⟨Q,k,g,s,D,rfl⟩:=IW he;obtain⟨M,H,I,k3,k4⟩:=(R.T _ _ K).slice;obtain⟨e',n',V,O,Z,g5,base,r,g6,g7,g8,gF,g9⟩:=bC g s hv.2;rw[D] at V;obtain⟨rfl,rfl⟩:=b9 (aU V);rcases g9 with g9|⟨f,c,g9,g10⟩
   .omega
   .obtain g6:a.eval x=_:=by simpa using g6
    refine bU h Y (by rw[g6,g10];exact oB H (I.sizeOf w) f _ _ r S L ai) ⟨⟨_,rfl,rfl⟩,Q,g,ai,λ_=>⟨f,c,g9,?_⟩⟩;have:(plus lo i).toNat=lo.toNat+i.toNat:=by simp only[plus];omega
    simp only[er,this,iO,IA]
  .cases A
 .rename_i m u b X p K F;rw[F] at hv;obtain⟨C,o⟩:=aD A;obtain⟨Q,g,s⟩:=ld C;obtain⟨hw,z⟩:=cL o;obtain rfl:=aU z;obtain⟨L,E⟩:=Ei hw;obtain⟨M,H,I,k3⟩:=(R.T _ _ K).arr;obtain⟨f,r,hl,t⟩:=bC g s hv.2;obtain t:a.eval x=_:=by simpa using t
  refine bU h Y (by rw[t];exact Dt H (I.sizeOf w) f _ S L E) ⟨⟨_,rfl,rfl⟩,Q,g,ai,λ_=>⟨f,r,hl,?_⟩⟩;rw[Eg];simp[er]
 .rename_i b X q e0 k0 lo n K F;rw[F] at hv;split at A
  .rename_i e he;obtain⟨C,o⟩:=aD A;simp at C;obtain⟨⟨hq,rfl⟩,hl⟩:=C;obtain⟨Q,g,s⟩:=ld hl;obtain⟨H,I⟩:=Ck R he;obtain⟨j,_,W,rfl,rfl⟩:=abz o;obtain⟨_,f,c,g1,V,O,Z,base,r,g5,g6,g7⟩:=bC g s hv.2;obtain g5:a.eval x=_:=by simpa using g5
   rcases g7 with g7|g7
   .grind
   .rw[Mh hq] at g7;have hj':(j:Int)<n.toNat:=ai;refine bU h Y (by rw[g5,g7];exact oB H ((R.sL _ I).2.1 w) f _ _ r S ai hj') ⟨⟨_,rfl,rfl⟩,Q,g,ai,λ_=>⟨f,c,g1,?_⟩⟩;simp[er]
  .cases A
 .cases A
def Nh(r:fM P cx){ty x s i}(h:dz B N γ σ a w)(z:∀k,d=aa k->k<N)(p:(na cx d ty (dm σ x) i σ).run=aa bb) :
  pr P B N γ σ a w d (Instr.indexAt ty (a.eval x)<|.int s i) bb:=by
 have hv:=h.dm x;unfold na at p;split at p
 .rename_i b E q O Q R n e F G;rw[F] at hv;obtain⟨A,f⟩:=aD p;simp at A;obtain⟨⟨H,rfl⟩,I⟩:=A;obtain⟨J,g,l⟩:=ld I;obtain⟨K,L⟩:=Ck r G;split at f
  {(rename_i j;obtain⟨C,t⟩:=aD f;obtain rfl:=aU t;have C:=gb C;obtain⟨_,m,c,M,S,T,U,D,u,v,V,o⟩:=bC g l hv.2;obtain v:a.eval x=_:=by simpa using v);rcases o with o|o;{grind};rw[Mh H] at o;have y:(j:Int)<n.toNat:=ai;show pr P B N γ σ a w d (Instr.indexAt ty _<|.int s j) _;refine bU h z (by rw[v,o];exact oB K ((r.sL _ L).2.1 w) m _ _ u s ai y) ⟨⟨_,rfl,rfl⟩,J,g,ai,λ_=>⟨m,c,M,?_⟩⟩;simp[er]};cases f
 .exact xe r h z p
def u8_in b:IntKind.u8.min<=u8 b/\u8 b<=IntKind.u8.max:=by have:=b.toNat_lt;have c:IntKind.u8.min=0:=aI;have e:IntKind.u8.max=255:=aI;simp only[u8];omega
def Ni(C:fM P cx){ty x G i}(h:dz B N γ σ a w)(D:∀k,d=aa k->k<N)(j:(nc cx d ty (dm σ x) i σ).run=aa bb) :
  pr P B N γ σ a w d (Instr.index ty (a.eval x)<|.int G i) bb:=by
 have hv:=h.dm x;unfold nc at j;split at j
 .rename_i s o p;rw[p] at hv;obtain⟨b,q,g⟩:=ck j;obtain rfl:=aU g;obtain⟨r,f⟩:=vO q;obtain⟨c,Q⟩:=Av hv;refine bU h D ?_ (mkInt<|u8_in b);rw[c];have H:(⟨List.toArray s⟩:ByteArray)[i.toNat]?=aa b:=by have:=(ga.1 f);obtain⟨I,J⟩:=this;rw[getElem?_pos _ i.toNat I];exact congrArg aa J
  simp only[Instr.index,asIntOf,Sem.run_bind,Sem.run_pure,Result.andThen_ok,run_underlying ((C.T _ _ o).str),r,H];rfl
 .rename_i m u n e l o p;rw[p] at hv;obtain⟨t,v⟩:=aD j;simp only[gC] at t;obtain rfl:=Ty.eq_of_beq t.1;obtain rfl:=iN t.2;obtain⟨y,q,g⟩:=ck v;obtain rfl:=aU g;obtain⟨r,f⟩:=vO q;obtain⟨K,L,E,R⟩:=(C.T _ _ o).arr;obtain⟨F,z,c⟩:=et.1 hv;have hi:i.toNat<m:=by have:=(ga.1 f).1;have:=z.1;omega
  have M:_*u.size<=m*u.size:=hL _ hi;rw[Dq] at M;have O:=z.2.1;refine bU h D ?_ ⟨_,(z.2.2 _ y f),rfl⟩;have A:i<m:=ai;rw[c];show(Instr.index ty (.agg F.toArray) _).run P w=_;simp only[Instr.index,asIntOf,Sem.run_bind,Sem.run_pure,Result.andThen_ok,run_underlying L,r,A,Yo,zx,E.sizeOf w,(FF E (cs:=F.toArray) (off:=i.toNat*u.size) dW vQ)]
 .cases j
def sb0 isSlice len cap:(Instr.sliceBounds isSlice len cap af af af).run P w=.ok (0,len,cap) w:=by simp[Instr.sliceBounds]
def sbh isSlice (len cap:Nat) k {y:Int} (b:0<=y) (c:y<=cap):(Instr.sliceBounds isSlice len cap af (aa<|.int k y) af).run P w=.ok (0,y.toNat,cap) w:=by have c1:0<=y/\y<=cap:=⟨b,c⟩;simp only[Instr.sliceBounds,Instr.sliceBound,asIntOf,Sem.run_bind,Sem.run_pure,Result.andThen_ok,c1,Yo,zx]
def sbl isSlice (len cap:Nat) k {y:Int} (b:0<=y) (c:y<=len):(Instr.sliceBounds isSlice len cap (aa<|.int k y) af af).run P w=.ok (y.toNat,len,cap) w:=by have c1:0<=y/\y<=len:=⟨b,c⟩;simp only[Instr.sliceBounds,Instr.sliceBound,asIntOf,Sem.run_bind,Sem.run_pure,Result.andThen_ok,c1,Yo,zx]
def aqt isSlice (len cap:Nat) k c {y b:Int} (e:0<=y) (g:y<=b) (f:b<=cap):(Instr.sliceBounds isSlice len cap (aa<|.int k y) (aa<|.int c b) af).run P w=.ok (y.toNat,b.toNat,cap) w:=by have c1:0<=b/\b<=cap:=⟨ai,f⟩;have c2:0<=y/\y<=b.toNat:=⟨e,ai⟩;simp only[Instr.sliceBounds,Instr.sliceBound,asIntOf];simp_all
def rP{lo hi n i j}(h:dz B N γ σ a w)(b:bounds σ n lo hi=aa (i,j)) isSlice (len cap:Nat) (x:n=len) (s:len<=cap) (p:0<=i) (q:i<=j) (z:j<=n) :
  (Instr.sliceBounds isSlice len cap (lo.map a.eval) (hi.map a.eval) af).run P w=.ok (i.toNat,j.toNat,cap) w:=by
 have c:∀o k m,dm σ o=.data (.int k) m->a.eval o=.int k m:=λo k m e=>by have:=h.dm o;rw[e] at this;exact(wI this).1
 unfold bounds at b;cases lo with|none =>(cases hi with|none =>have:=sb0 (P:=P) (w:=w) isSlice len cap;grind|some o =>simp only at b;split at b;{rename_i k y f;obtain⟨rfl,g⟩:=b9 (aU b);have e:=c o k _ f;rw[show y=j from g] at e;simp only[Mb,e];exact sbh isSlice len cap k q ai};cases b)|some o =>cases hi with|none =>simp only at b;split at b;{rename_i k y f;have:=sbl (P:=P) (w:=w) isSlice len cap k p ai;grind};cases b|some o2 =>simp only at b;split at b;{rename_i k y r t f l;obtain⟨u,v⟩:=b9 (aU b);have e:=c o k _ f;have g:=c o2 r _ l;rw[show y=i from u] at e;rw[show t=j from v] at g;simp only[Mb,e,g];exact aqt isSlice len cap k r p q ai};cases b
def aip s {i j} (b:0<=i) (c:i<=j):(⟨s.toArray⟩:ByteArray).extract i.toNat j.toNat=⟨(sub s i<|minus j i).toArray⟩:=by
 have:(minus j i).toNat=j.toNat-i.toNat:=by simp only[minus];omega
 apply ByteArray.ext;simp[sub,this]
def abA{α}(s:List α) i n:(sub s i n).length<=s.length:=by simp only[sub,cY,qo];omega
def aiq{I e}{l:List e.den}{blk off cap i j}(h:∀k x,l[k]?=aa x->∃b,b.length=e.size /\
   (∀q v,b[q]?=aa v->w.cell? ⟨blk,off+k*e.size+q,af⟩=aa v/\I blk (off+k*e.size+q))/\bZ w I e x b) (m:i<=j) (n:j<=l.length) (o:l.length<=cap) (p:cap<=maxLen) base
  (f:base=aa ⟨blk,off+i*e.size,af⟩\/(i=cap/\base=aa ⟨blk,off,af⟩)) : bZ w I (.slice e) ((l.drop i).take<|j-i) [.slice base (j-i)<|cap-i]:=by
 rcases f with rfl|⟨rfl,rfl⟩
 .refine .inr ⟨blk,off+i*e.size,cap-i,?_,?_,ai,λk x g=>?_⟩;{grind};{grind}
  .grind
 .have c:j=i:=ai;subst c;refine .inr ⟨blk,off,0,aW,aW,ai,λk x g=>?_⟩;grind
def sub_eq{α}(l:List α){i j}(b:0<=i)(c:i<=j):sub l i (minus j i)=(l.drop i.toNat).take (j.toNat-i.toNat):=by
 have:(minus j i).toNat=j.toNat-i.toNat:=by simp only[minus];omega
 rw[sub,this]
def sub_zero{α}(l:List α):sub l 0 (minus 0 0)=[]:=by simp[sub,minus]
def afk{I e l blk off cap i j}(c:∀k x,l[k]?=aa x->∃b,b.length=e.size /\
   (∀q v,b[q]?=aa v->w.cell? ⟨blk,off+k*e.size+q,af⟩=aa v/\I blk (off+k*e.size+q))/\bZ w I e x b) (f:0<=i) (g:i<=j) (o:j<=l.length) (h:l.length<=cap) (m:cap<=maxLen) base
  (n:base=aa ⟨blk,off+i.toNat*e.size,af⟩\/(i.toNat=cap/\base=aa ⟨blk,off,af⟩)) : bZ w I (.slice e) (sub l i<|minus j i) [.slice base (j.toNat-i.toNat)<|cap-i.toNat]:=by
 rw[sub_eq l f g];exact aiq c ai ai h m base n
def yr.sub{base cap}(h:yr base cap) i s:yr (if cap=i then base else base.map (·.add s)) (cap-i):=by
 rcases h with rfl|⟨b,c,rfl⟩
 {exact .inl ai};refine .inr ?_;split;{grind};exact⟨b,c+s,by rw[Mb,addr_add]⟩
def IL.sub{f b lo i base cap}(h:IL γ f b lo base cap)(j:0<=lo)(n:0<=i) s :
  IL γ f b (plus lo i) (if cap=i.toNat then base else base.map (·.add (i.toNat*s))) (cap-i.toNat):=by
 intro e k;have l:lo=0:=by simp only[plus] at e;omega
 have m:i=0:=by simp only[plus] at e;omega
 subst l;subst m;rcases h rfl k with ⟨g,rfl,rfl⟩|⟨c,g,rfl⟩
 .grind
 .refine .inr ⟨c,by simpa using g,?_⟩;split
  .rfl
  .simp[Addr.add]
def Nj(hc:fM P cx){ty:TypeId}{x:Operand}{lo hi:Option Operand}(h:dz B N γ σ a w)(hd:∀k,d=aa k->k<N)(F:(mZ cx d ty (dm σ x) lo hi σ).run=aa bb) :
  pr P B N γ σ a w d (Instr.sliceAt ty (a.eval x) (lo.map a.eval) (hi.map a.eval) af) bb:=by
 have hv:=h.dm x;unfold mZ at F;split at F
 ·
  rename_i s O Q;rw[Q] at hv;split at F
  .rename_i i j G;obtain⟨A,r⟩:=cL F;obtain rfl:=aU r;obtain⟨D,J,E⟩:=jQ A;obtain⟨p,hl⟩:=Av hv;have hu:=(hc.T _ _ O).str;have y:=rP (P:=P) h G false (List.length (α:=UInt8) s) (List.length (α:=UInt8) s) rfl (b8 _) D J E;refine bU h hd (x:=.string ⟨(sub (α:=UInt8) s i<|minus j i).toArray⟩) ?_ (mkStr<|gS (abA (α:=UInt8) s _ _) hl);rw[p];have hsz:(⟨List.toArray (α:=UInt8) s⟩:ByteArray).size=List.length (α:=UInt8) s:=rfl;simp only[Instr.sliceAt,Instr.slice,Sem.run_bind,run_underlying hu,Result.andThen_ok,hsz,Option.isSome_none,Bool.false_eq_true,if_false];rw[y];simp only[Result.andThen_ok,Sem.run_pure];rw[aip (show bj from s) D J]
  .cases F
 ·
  rename_i u e l O Q;rw[Q] at hv;obtain⟨t,o⟩:=aD F;obtain rfl:=Ty.eq_of_beq t;split at o
  .rename_i i j G;obtain⟨A,r⟩:=cL o;obtain rfl:=aU r;obtain⟨D,J,E⟩:=jQ A;obtain⟨Z,U,V,k3,k4⟩:=(hc.T _ _ O).slice;obtain⟨cs,aqu,p⟩:=et.1 hv;have H:len (α:=u.den) l=(List.length (α:=u.den) l:Int):=rfl;rcases aqu with ⟨⟨K,e1⟩,e2⟩|⟨b,R,f,e1,e2,e3,e4⟩
   .have L:a.eval x=.slice K 0 0:=by rw[p,e1];rfl
    have M:List.length (α:=u.den) l=0:=by rw[show l=([]:List u.den) from e2];rfl
    rw[H,M] at E;have hi0:i=0:=ai;have hj0:j=0:=ai;subst hi0;subst hj0;have y:=rP (P:=P) h G true 0 0 (by rw[H,M]) (b8 _) D J (by rw[H,M];exact E);refine bU h hd (x:=.slice K 0 0) ?_ ⟨_,.inl ⟨⟨K,rfl⟩,?_⟩,rfl⟩
    .rw[L];simp only[Instr.sliceAt,Instr.slice,Sem.run_bind,run_underlying U,Result.andThen_ok,y,V.sizeOf w,Sem.run_pure];rfl
    .exact sub_zero (α:=u.den) l
   .have L:a.eval x=.slice (aa ⟨b,R,af⟩) (List.length (α:=u.den) l) f:=by rw[p,e1];rfl
    have y:=rP (P:=P) h G true (List.length (α:=u.den) l) f H e2 D J E;have hj:j.toNat<=List.length (α:=u.den) l:=by rw[H] at E;omega
    have aoX:=afk (w:=w) (i:=i) (j:=j) e4 D J (by rw[H] at E;exact E) e2 e3;refine bU h hd (x:=.slice (if f=i.toNat then aa ⟨b,R,af⟩ else aa ⟨b,R+i.toNat*u.size,af⟩) (j.toNat-i.toNat) (f-i.toNat)) ?_
     ⟨_,aoX (if f=i.toNat then aa ⟨b,R,af⟩ else aa ⟨b,R+i.toNat*u.size,af⟩) (by
      split
      .rename_i v;exact .inr ⟨v.symm,rfl⟩
      .exact .inl rfl),rfl⟩
    rw[L];simp only[Instr.sliceAt,Instr.slice,Sem.run_bind,run_underlying U,Result.andThen_ok,y,V.sizeOf w,Sem.run_pure,Mb,addr_add]
  .cases o
 ·
  rename_i u c aY lo' n O Q;rw[Q] at hv;split at F
  .rename_i W z;obtain⟨t,o⟩:=aD F;simp only[gC] at t;have C:=iN t.1;split at o
   .rename_i i j G;obtain⟨A,r⟩:=cL o;obtain rfl:=aU r;obtain⟨D,J,E⟩:=jQ A;obtain⟨Z,U,V,k3,k4⟩:=(hc.T _ _ O).slice;obtain⟨e',k,g2,X,g4,g5,g,f,g6,g7,g8,gF,g9⟩:=bC z C hv.2;have hue:u=e':=by
     have:=t.2;rw[g2] at this;exact Ty.eq_of_beq this
    subst hue;obtain g6:a.eval x=_:=by simpa using g6
    have y:=rP (P:=P) h G true n.toNat f ai g7 D J E;refine bU h hd (x:=.slice (if f=i.toNat then g else g.map (·.add (i.toNat*u.size))) (j.toNat-i.toNat) (f-i.toNat)) ?_
     ⟨⟨_,rfl,rfl⟩,W,z,ai,λ_=>⟨u,k,g2,by simp only[plus];omega,by simp only[minus];omega,by simp only[plus,minus];omega,(if f=i.toNat then g else g.map (·.add (i.toNat*u.size))),f-i.toNat,?_,?_,?_,⟨gF.1.sub _ _,gF.2.sub X D _⟩,?_⟩⟩
    .rw[g6];simp only[Instr.sliceAt,Instr.slice,Sem.run_bind,run_underlying U,Result.andThen_ok,y,V.sizeOf w,Sem.run_pure]
    .have:(minus j i).toNat=j.toNat-i.toNat:=by simp only[minus];omega
     rw[this]
    .simp only[minus];omega
    .omega
    .rcases g9 with g9|⟨b,c',g9,g10⟩
     .exact .inl (by simp only[minus];omega)
     .by_cases v:f=i.toNat
      .exact .inl (by simp only[minus];omega)
      .refine .inr ⟨b,c',g9,?_⟩;rw[aK v,g10];have:(plus lo' i).toNat=lo'.toNat+i.toNat:=by simp only[plus];omega
       simp only[Mb,addr_add,this,iO]
   .cases o
  .cases F
 ·
  rename_i u c aY O Q;rw[Q] at hv;split at F
  .rename_i W z;obtain⟨t,o⟩:=aD F;simp only[gC] at t;have C:=iN t.1;split at o
   .rename_i e l hbv;obtain⟨hue,r⟩:=aD o;obtain rfl:=Ty.eq_of_beq hue;obtain⟨Z,U,V,k3,k4⟩:=(hc.T _ _ O).slice;obtain⟨e',n',g1,g2,X⟩:=bC z C hv.2;have air:W.row=aa (u,List.length (α:=u.den) l):=Box.ec t.2 hbv;rw[air] at g2;obtain⟨rfl,rfl⟩:=b9 (aU g2);have hat:=h.ok.boxes c W z;rw[e7,g1] at hat;obtain⟨e2,l2,j1,j2,j3⟩:=hat;have aoY:∃g f,a.eval x=.slice g (List.length (α:=u.den) l) f/\List.length (α:=u.den) l<=f/\f<=maxLen/\(((f=0/\List.length (α:=u.den) l=0)/\γ.loc c=af/\g=af)\/∃b,γ.loc c=aa (b,f)/\g=aa ⟨b,0,af⟩):=by
     rw[hbv] at j1;cases j1;rcases X with ⟨X,g4⟩|⟨b,f,X,g4⟩
     .obtain g4:a.eval x=_:=by simpa using g4
      rcases j3 with ⟨_,j4⟩|⟨_,_,_,_,_,j3,_⟩
      .have M:List.length (α:=u.den) l=0:=by rw[j4];rfl
       exact⟨af,0,by rw[g4,M],ai,qh _,.inl ⟨⟨rfl,M⟩,X,rfl⟩⟩
      .rw[X] at j3;cases j3
     .obtain g4:a.eval x=_:=by simpa using g4
      rcases j3 with ⟨j3,_⟩|⟨afl,anx,cur,tid,fr,q1,Y,q3,ak6,q4,q5,q6,q7⟩
      .rw[X] at j3;cases j3
      .rw[X] at q1;obtain⟨rfl,rfl⟩:=b9 (aU q1);exact⟨_,f,g4,q4,q5,.inr ⟨b,X,rfl⟩⟩
    obtain⟨g,f,m1,m2,m3,m4⟩:=aoY;have hF:yr g f:=by
     rcases m4 with ⟨⟨Y,_⟩,_⟩|⟨b,q1,Y⟩
     .exact .inl Y
     .exact .inr ⟨b,0,Y⟩
    have hZ:IL γ W c 0 g f:=λ_ _=>by
     rcases m4 with ⟨⟨Y,_⟩,q3,q4⟩|⟨b,q1,Y⟩
     .exact .inl ⟨q3,q4,Y⟩
     .exact .inr ⟨b,q1,Y⟩
    have I:∀{i j:Int},bounds σ (len (α:=u.den) l) lo hi=aa (i,j)->0<=i->i<=j->j<=len (α:=u.den) l ->
      (Instr.sliceAt ty (a.eval x) (lo.map a.eval) (hi.map a.eval) af).run P w=.ok (.slice (if f=i.toNat then g else g.map (·.add (i.toNat*u.size))) (j.toNat-i.toNat)<|f-i.toNat) w:=by
     intro i j G D J E;have y:=rP (P:=P) h G true (List.length (α:=u.den) l) f rfl m2 D J E;rw[m1];simp only[Instr.sliceAt,Instr.slice,Sem.run_bind,run_underlying U,Result.andThen_ok,y,V.sizeOf w,Sem.run_pure]
    split at r
    .obtain rfl:=aU r;have:=I (i:=0) (j:=len (α:=u.den) l) rfl ai (by simp only[len];omega) ai;have hjl:(len (α:=u.den) l).toNat=List.length (α:=u.den) l:=by simp[len]
     rw[hjl] at this;refine bU h hd (x:=a.eval x) ?_ hv;rw[this,m1]
     congr 1
     have:(g.map (·.add ((0:Int).toNat*u.size)))=g:=by cases g<;>simp[Addr.add]
     rw[this];simp
    .split at r
     .rename_i i j G;obtain⟨A,S⟩:=cL r;obtain rfl:=aU S;obtain⟨D,J,E⟩:=jQ A;have H:len (α:=u.den) l=(List.length (α:=u.den) l:Int):=rfl;rw[H] at E;refine bU h hd (I G D J E)
       ⟨⟨_,rfl,rfl⟩,W,z,ai,λ_=>⟨u,_,air,D,by simp only[minus];omega,by simp only[minus];omega,(if f=i.toNat then g else g.map (·.add (i.toNat*u.size))),f-i.toNat,?_,?_,?_,⟨hF.sub _ _,by have:=hZ.sub (sK 0) D u.size;rwa [show plus 0 i=i by simp[plus]] at this⟩,?_⟩⟩
      .have:(minus j i).toNat=j.toNat-i.toNat:=by simp only[minus];omega
       rw[this]
      .simp only[minus];omega
      .omega
      .by_cases v:f=i.toNat
       .exact .inl (by simp only[minus];omega)
       .rcases m4 with ⟨q1,q3⟩|⟨b,q1,Y⟩
        .exact .inl ai
        .refine .inr ⟨b,f,q1,?_⟩;rw[aK v,Y];simp only[Mb,addr_add,Gq]
     .cases r
   .cases o
  .cases F
 ·
  rename_i m u c aY s q O Q;rw[Q] at hv;obtain⟨hlm,o⟩:=aD F;simp at hlm;obtain⟨W,z,C⟩:=ld hlm.1;split at o
  .rename_i i j G;obtain⟨A,S⟩:=cL o;obtain rfl:=aU S;obtain⟨D,J,E⟩:=jQ A;obtain⟨Z,U,V,k3⟩:=(hc.T _ _ O).arr;obtain⟨b,f,hl,p⟩:=bC z C hv.2;obtain p:a.eval x=.pointer (aa ⟨b,er _,af⟩):=by simpa using p
   have y:=rP (P:=P) h G false m m rfl (b8 _) D J E;refine bU h hd (x:=.slice (aa<|if m=i.toNat then⟨b,er (s::q),af⟩ else(⟨b,er (s::q),af⟩:Addr).add (i.toNat*u.size)) (j.toNat-i.toNat) (m-i.toNat)) ?_
    ⟨⟨_,rfl,rfl⟩,W,z,ai,λ_=>⟨aW,b,f,hl,D,by simp only[minus];omega,by simp only[minus];omega,aa (if m=i.toNat then⟨b,er (s::q),af⟩ else(⟨b,er (s::q),af⟩:Addr).add (i.toNat*u.size)),m-i.toNat,?_,?_,?_⟩⟩
   .rw[p];simp only[Instr.sliceAt,Sem.run_bind,run_underlying U,Result.andThen_ok,Instr.sureAddr,Sem.run_pure,y,V.sizeOf w]
   .have:(minus j i).toNat=j.toNat-i.toNat:=by simp only[minus];omega
    rw[this]
   .simp only[minus];omega
   .by_cases v:m=i.toNat
    .exact .inl (by simp only[minus];omega)
    .refine .inr ?_;rw[aK v];simp only[addr_add]
  .cases o
 ·
  rename_i m u c aY O Q;rw[Q] at hv;split at F
  .rename_i W z;obtain⟨t,o⟩:=aD F;simp only[gC,Hr] at t;have C:=iN t.1;split at o
   .rename_i n e l hbv;obtain⟨hq,r⟩:=aD o;simp only[gC] at hq;obtain rfl:=iN hq.1.1;obtain rfl:=Ty.eq_of_beq hq.1.2;have asP:=M7 hq.2;split at r
    .rename_i i j G;obtain⟨A,S⟩:=cL r;obtain rfl:=aU S;obtain⟨D,J,E⟩:=jQ A;obtain⟨Z,U,V,k3⟩:=(hc.T _ _ O).arr;obtain⟨b,f,hl,p⟩:=bC z C hv.2;obtain p:a.eval x=.pointer _:=by simpa [er] using p
     have y:=rP (P:=P) h G false m m rfl (b8 _) D J E;have hF:yr (aa<|if m=i.toNat then⟨b,0,af⟩ else(⟨b,0,af⟩:Addr).add (i.toNat*u.size)) (m-i.toNat):=by
      refine .inr ?_;split
      .exact⟨b,0,rfl⟩
      .exact⟨b,0+i.toNat*u.size,by rw[addr_add]⟩
     refine bU h hd (x:=.slice (aa<|if m=i.toNat then⟨b,0,af⟩ else(⟨b,0,af⟩:Addr).add (i.toNat*u.size)) (j.toNat-i.toNat) (m-i.toNat)) ?_
      ⟨⟨_,rfl,rfl⟩,W,z,ai,λ_=>⟨u,m,Box.tc t.2 hbv,D,by simp only[minus];omega,by simp only[minus];omega,aa (if m=i.toNat then⟨b,0,af⟩ else(⟨b,0,af⟩:Addr).add _),m-i.toNat,?_,?_,?_,⟨hF,λ_ G=>by rw[t.2] at G;cases G⟩,?_⟩⟩
     .rw[p];simp only[Instr.sliceAt,Sem.run_bind,run_underlying U,Result.andThen_ok,Instr.sureAddr,Sem.run_pure,y,V.sizeOf w]
     .have:(minus j i).toNat=j.toNat-i.toNat:=by simp only[minus];omega
      rw[this]
     .simp only[minus];omega
     .simp only[maxLen];omega
     .by_cases v:m=i.toNat
      .exact .inl (by simp only[minus];omega)
      .refine .inr ⟨b,f,hl,?_⟩;rw[aK v];simp only[addr_add,Gq]
    .cases r
   .cases o
  .cases F
 .cases F
end
end Go.Ge
namespace Go.Ge
open RowKit
section
variable {P:Program} {B:DW} {N:Nat} {γ:Gh} {σ bb:St} {a:Act} {w:World} {d:Option Nat} {cx:Ctx}
def bZ.flat{w w' I I'}:∀{t x cs},t.flat=true->bZ w I t x cs->bZ w' I' t x cs:=by intro t;induction t with|int k=>intro x cs _ h;exact h|bool=>intro x cs _ h;exact h|str=>intro x cs _ h;exact h|slice e p=>intro x cs f;cases f|arr n e p=>intro x cs f h;exact⟨h.1,h.2.1,λi y q=>p f (h.2.2 i y q)⟩|pair a b g j =>(intro x cs f h;simp only[Ty.flat,gC] at f;obtain⟨s,v,A,l,m⟩:=h;exact⟨s,v,A,g f.1 l,j f.2 m⟩)|unit=>intro x cs _ h;exact h|alt u a r g o =>(intro x cs f h;simp only[Ty.flat,gC] at f;rcases x with y|z;{obtain⟨l,c,m,C⟩:=h;exact⟨l,c,m,g f.1 C⟩};exact o f.2 h)|DV=>intro x cs _ h;exact h
def Ej(w:World)(I:Nat->Nat->Prop)(e:Ty)(l:List e.den)(v:Value):Prop :=(l=[]/\∃f b,v=.slice f 0 b/\b<=maxLen/\yr f b) \/ ∃g h b,v=.slice (aa ⟨g,h,af⟩) l.length b/\l.length<=b/\b<=maxLen /\∀(i:Nat) (x:e.den),l[i]?=aa x->∃k:List Value,k.length=e.size /\(∀(j:Nat) c,k[j]?=aa c->w.cell? ⟨g,h+i*e.size+j,af⟩=aa c)/\bZ w I e x k
def Cl{I e}{l:List e.den}{blk cur tid k}(m:w.heap[blk]?=aa (.cells cur tid k)){n}(o:n*e.size<=cur.size)
  (h:∀i x,l[i]?=aa x->bZ w I e x ((cur.toList.drop<|i*e.size).take e.size)) (p:l.length<=n) lo :
  ∀i x,(l.drop lo)[i]?=aa x->∃b,b.length=e.size /\(∀j c,b[j]?=aa c->w.cell? ⟨blk,lo*e.size+i*e.size+j,af⟩=aa c)/\bZ w I e x b:=by
 intro i x f;rw[xw] at f;have g:=h _ x f;refine⟨_,g.length,λj c q=>?_,g⟩;rw[cell_of_heap m]
 grind
def e7.row{b bx mem}(h:e7 γ mem w b bx){blk cap}(v:γ.loc b=aa (blk,cap)) :
  (∀(e:Ty) (l:List e.den),bx.buf=true->bx.val=.data (.slice e) l->∃c tid f,w.heap[blk]?=aa (.cells c tid f)/\oA c f/\l.length<=cap/\cap<=maxLen/\c.size=cap*e.size/\0<e.size /\∀i x,l[i]?=aa x->bZ w γ.I e x ((c.toList.drop<|i*e.size).take e.size)) /\
  (∀n (e:Ty) (l:List e.den),bx.buf=false->bx.val=.data (.arr n e) l->∃c tid f,w.heap[blk]?=aa (.cells c tid f)/\oA c f/\l.length=n/\c.size=n*e.size /\∀i x,l[i]?=aa x->bZ w γ.I e x ((c.toList.drop<|i*e.size).take e.size)):=by
 refine⟨λe l o p=>?_,λn e l o p=>?_⟩
 .rw[e7,o] at h;obtain⟨D,E,r,y,s⟩:=h;rw[p] at r;cases r;rcases s with ⟨s,_⟩|⟨g,j,c,tid,f,q,t,u,k,m,z,A,C⟩;{grind}
  .rw[v] at q;obtain⟨rfl,rfl⟩:=b9 (aU q);exact⟨c,tid,f,t,u.th,m,z,A,y,C⟩
 .rw[e7,o] at h;obtain⟨g,j,c,tid,f,q,t,u,k,m⟩:=h;rw[p] at m;obtain⟨F,G,H⟩:=m;grind
def IX{u e l m}(h:toL u e l=aa m):∃q:u=e,m=q▸l:=mE h
def oC{e v l}(g:jx e σ v=aa l) :
  v=.data (.slice e) l\/(v=.qq/\l=[])\/(∃b c f,v=.whole b c/\σ.mem b=aa f/\f.aY=c/\f.buf=true/\f.val=.data (.slice e) l) \/ ∃b c o n f,v=.part b c o n/\σ.mem b=aa f/\f.aY=c/\((f.buf=true/\∃j:List e.den,f.val=.data (.slice e) j/\l=sub j o n)\/(f.buf=false/\∃(k:Nat) (j:List e.den),f.val=.data (.arr k e) j/\l=sub j o n)):=by
 unfold jx at g;split at g
 .obtain⟨q,rfl⟩:=IX g;grind
 .exact .inr (.inl ⟨rfl,(aU g).symm⟩)
 .rename_i b c;split at g
  .rename_i f p;cases m:(Nat.beq f.aY c&&f.buf) with
   | false=>rw[m] at g;exact absurd g aW
   | true =>
     rw[m,B9] at g;simp only[gC] at m;split at g
     .rename_i u j h;obtain⟨q,rfl⟩:=IX g;subst q;exact .inr (.inr<|.inl ⟨b,c,f,rfl,p,iN m.1,m.2,h⟩)
     .grind
  .grind
 .rename_i b c o n;split at g
  .rename_i f p;cases m:Nat.beq f.aY c with
   | false=>rw[m] at g;exact absurd g aW
   | true =>
     rw[m] at g;split at g
     .rename_i u j i h;obtain⟨q,rfl⟩:=IX g;subst q;exact .inr (.inr<|.inr ⟨b,c,o,n,f,rfl,p,iN m,.inl ⟨i,j,h,rfl⟩⟩)
     .rename_i r u j i h;obtain⟨q,rfl⟩:=IX g;subst q;exact .inr (.inr<|.inr ⟨b,c,o,n,f,rfl,p,iN m,.inr ⟨i,r,j,h,rfl⟩⟩)
     .grind
  .grind
 .grind
def OA{α}{l:List α}{b n:Int}(c:0<=b)(e:0<=n)(f:b+n<=l.length):(sub l b n).length=n.toNat:=by simp only[sub,cY,qo];omega
def uM(M:bP B γ σ.mem w){e v val l}(O:cK γ σ.mem w v .val [val])(hl:jx e σ v=aa l):Ej w γ.I e l val:=by
 rcases oC hl with rfl|⟨rfl,rfl⟩|⟨b,R,E,rfl,s,p,f,g⟩|⟨b,R,z,n,E,rfl,s,p,S⟩
 .obtain⟨cs,F,r⟩:=et.1 O;rcases F with ⟨⟨o,F⟩,T⟩|⟨j,U,h,F,T,h3,h4⟩;{exact .inl ⟨T,o,0,by rw[r,F];rfl,qh _,.inl rfl⟩};refine .inr ⟨j,U,h,by rw[r,F];rfl,T,h3,λi x A=>?_⟩;grind
 .obtain rfl:val=_:=by simpa [cK] using O
  exact .inl ⟨rfl,af,0,rfl,qh _,.inl rfl⟩
 .obtain⟨e',n',V,t,u⟩:=bC s p O.2;rw[Box.ec V g] at t;obtain⟨rfl,rfl⟩:=b9 (aU t);rcases u with ⟨u,C⟩|⟨j,h,u,C⟩;{(obtain rfl:val=_:=by simpa using C);have G:=M.boxes b E s;rw[e7,V] at G;obtain⟨e2,l2,W,j2,X⟩:=G;rw[g] at W;cases W;rcases X with ⟨_,j4⟩|⟨_,_,_,_,_,X,_⟩;{exact .inl ⟨j4,af,0,rfl,qh _,.inl rfl⟩};grind};(obtain rfl:val=_:=by simpa using C);obtain⟨H,tid,Y,J,Z,D,q4,q5,q6,K⟩:=((M.boxes b E s).row u).1 _ l V g;refine .inr ⟨j,0,h,rfl,D,q4,λi x A=>?_⟩;have:=Cl J ai K D 0 i x A;grind
 obtain⟨e',k,t,u,C,g5,o,h,g6,g7,Q,gF,q⟩:=bC s p O.2;obtain rfl:val=_:=by simpa using g6
 rcases S with ⟨f,L,g,rfl⟩|⟨f,k0,L,g,rfl⟩;{rw[Box.ec f g] at t;obtain⟨rfl,rfl⟩:=b9 (aU t);have hlen:=OA u C g5;rcases q with q|⟨j,c,q,y⟩;{subst q;exact .inl ⟨by simp[sub],o,h,rfl,Q,gF.1⟩};obtain⟨H,tid,Y,J,Z,D,q4,q5,q6,K⟩:=((M.boxes b E s).row q).1 _ L f g;refine .inr ⟨j,z.toNat*e.size,h,by rw[y,hlen],by rw[hlen];exact g7,Q,λi x A=>?_⟩;have m:((List.drop z.toNat L).take n.toNat)[i]?=aa x:=A;rw[kh] at m;split at m;{exact Cl J ai K D z.toNat i x m};grind};rw[Box.tc f g] at t;obtain⟨rfl,rfl⟩:=b9 (aU t);rcases q with q|⟨j,c,q,y⟩;{subst q;exact .inl ⟨by simp[sub],o,h,rfl,Q,gF.1⟩};obtain⟨H,tid,Y,J,Z,D,q5,K⟩:=((M.boxes b E s).row q).2 _ _ L f g;have hlen:=OA u C (by rw[D];exact g5);refine .inr ⟨j,z.toNat*e.size,h,by rw[y,hlen],by rw[hlen];exact g7,Q,λi x A=>?_⟩;have m:((List.drop z.toNat L).take n.toNat)[i]?=aa x:=A;rw[kh] at m;split at m;{exact Cl J (n:=k0) ai K ai z.toNat i x m};grind
def Hz{I e blk}:∀{l:List e.den} {off},(∀i x,l[i]?=aa x->∃f,f.length=e.size /\
   (∀j c,f[j]?=aa c->w.cell? ⟨blk,off+i*e.size+j,af⟩=aa c)/\bZ w I e x f) ->
  ∃b:List Value,b.length=l.length*e.size/\(∀j c,b[j]?=aa c->w.cell? ⟨blk,off+j,af⟩=aa c)/\(∀c∈b,c.oneCell'=true) /\∀i x,l[i]?=aa x->bZ w I e x ((b.drop<|i*e.size).take e.size):=by
 intro l;induction l with|nil=>intro off h;exact⟨[],aW,aW,aW,aW⟩|cons m r n =>(intro off h;obtain⟨f,s,t,o⟩:=h 0 m rfl;obtain⟨b,u,v,y,z⟩:=n (off:=off+e.size) λi x k=>by obtain⟨p,A,C,D⟩:=h (i+1) x (by simpa using k);grind);refine⟨f++b,by rw[gR,iG,Dq];omega,λj c q=>?_,λc g=>?_,λi x k=>?_⟩;{rw[VM] at q;grind};{rcases Gp.1 g with g|g;{exact o.one c g};grind};cases i with|zero =>grind|succ i =>rw[Dq,adZ,<-Ap];grind
def IY(h:dz B N γ σ a w){b g e n}(p:σ.mem b=aa g)(m:g.row=aa (e,n))(f:freeze σ b=aa bb) :
  ∃bM,dz B N bM bb a w/\Ext B γ σ.mem w bM bb.mem w/\bM.loc=γ.loc/\∀i k j,γ.loc b=aa (i,k)->j<n*e.size->bM.I i j:=by
 obtain⟨m1,q⟩:=h.ok.freeze p m;have r:bb={ bw:=σ.bw,mem:=dh σ.mem b { g with ro:=true } }:=by unfold freeze at f;rw[p] at f;cases l:g.ro with|true =>(simp only[l,B9,Ph] at f;subst f;have:dh σ.mem b { g with ro:=true }=σ.mem:=by funext c;by_cases e:c=b;{subst e;rw[bK,p];cases g;subst l;rfl};rw[bh _ e]);rw[this]|false =>simp only[l] at f;cases o:g.lk with|true=>simp[o] at f|false=>simp only[o,zw,Ph] at f;subst f;rfl
 subst r;exact⟨_,h.go q m1,q,rfl,λi k j s t=>.inr ⟨⟨k,s⟩,t⟩⟩
def Ej.data{g:Gh}{e l val}(h:Ej w γ.I e l val)(s:∀b o,γ.I b o->g.I b o)
  (t:∀f off cap,val=.slice (aa ⟨f,off,af⟩) l.length cap->∀j,j<l.length*e.size->g.I f (off+j)):bZ w g.I (.slice e) l [val]:=by
 rcases h with ⟨rfl,k,cap,m,p,q⟩|⟨f,off,cap,m,p,q,u⟩
 .rcases q with rfl|⟨f,off,rfl⟩;{exact .inl ⟨⟨k,by rw[m]⟩,rfl⟩};exact .inr ⟨f,off,cap,by rw[m];rfl,qh _,p,λi x n=>by cases n⟩
 .refine .inr ⟨f,off,cap,by rw[m],p,q,λi x n=>?_⟩;obtain⟨es,v,y,z⟩:=u i x n;refine⟨es,v,λj c r=>⟨y j c r,?_⟩,bZ.mono s (λ_ _ _=>rfl) z⟩;have A:j<e.size:=by have:=(ga.1 r).1;omega
  have:_*e.size<=l.length*e.size:=hL _ ((ga.1 n).1);rw[Dq] at this;rw[Ht];exact t f off cap m _ ai
def IZ(h:dz B N γ σ a w){e v val l}(t:cK γ σ.mem w v .val [val])(H:jx e σ v=aa l)(z:jl σ v=aa bb) :
  ∃bM,dz B N bM bb a w/\Ext B γ σ.mem w bM bb.mem w/\bZ w bM.I (.slice e) l [val]:=by
 have o:=uM h.ok t H;rcases oC H with rfl|⟨rfl,rfl⟩|⟨b,A,J,rfl,q,m,f,i⟩|⟨b,A,V,n,J,rfl,q,m,C⟩
 .obtain rfl:=aU z;obtain⟨W,K,g⟩:=et.1 t;have:W=[val]:=by obtain⟨c,rfl⟩:=adH.1 K.length;rw[g];rfl
  exact⟨γ,h,Ext.refl _ _ _ _,by rw[<-this];exact K⟩
 .obtain rfl:=aU z;obtain rfl:val=_:=by simpa [cK] using t
  exact⟨γ,h,Ext.refl _ _ _ _,.inl ⟨⟨af,rfl⟩,rfl⟩⟩
 .obtain⟨bM,D,u,X,Y⟩:=IY h q (Box.ec f i) z;refine⟨bM,D,u,o.data u.I λx E F g j Z=>?_⟩;obtain⟨L,n',g1,r,G⟩:=bC q m t.2;grind
 .obtain⟨L,k,r,G,M,O,Q,F,g6,g7,g8,gF,p⟩:=bC q m t.2;obtain rfl:val=_:=by simpa using g6
  have hlk:e=L/\l.length=n.toNat:=by rcases C with ⟨f,R,i,rfl⟩|⟨f,k0,R,i,rfl⟩;{rw[Box.ec f i] at r;obtain⟨rfl,rfl⟩:=b9 (aU r);exact⟨rfl,OA G M O⟩};rw[Box.tc f i] at r;obtain⟨rfl,rfl⟩:=b9 (aU r);rcases p with p|⟨x,c,p,y⟩;{subst p;exact⟨rfl,by simp[sub]⟩};obtain⟨cur,tid,fr,s,q2,S,q5,q7⟩:=((h.ok.boxes b J q).row p).2 _ _ R f i;exact⟨rfl,OA G M (by rw[S];exact O)⟩
  obtain⟨bM,D,u,X,Y⟩:=IY h q r z;refine⟨bM,D,u,o.data u.I λx E T g j Z=>?_⟩;rcases p with p|⟨U,c,p,y⟩;{grind};injection g with s q2 S;rw[y] at s;injection s with s;injection s with s q4;have:(V.toNat+n.toNat)*e.size<=k*e.size:=hL _ ai;grind
def GL{e v l b}(h:jx e σ v=aa l)(k:freeze σ b=aa bb):jx e bb v=aa l:=by
 have z:∀c j,σ.mem c=aa j->∃r,bb.mem c=aa { j with ro:=r }:=by intro c j q;unfold freeze at k;split at k;{rename_i p t;cases m:p.ro with|true=>simp only[m,B9,Ph] at k;subst k;exact⟨j.ro,q⟩|false =>cases o:p.lk with|true=>simp[m,o] at k|false =>simp only[m,o,zw,Ph] at k;subst k;by_cases e:c=b;{subst e;rw[t] at q;obtain rfl:=aU q;exact⟨true,by simp[St.cd,o]⟩};exact⟨j.ro,by simp[St.cd,kn e,q]⟩};cases k
 rcases oC h with rfl|⟨rfl,rfl⟩|⟨c,u,j,rfl,x,g,f,i⟩|⟨c,u,C,n,j,rfl,x,g,y⟩
 .exact h
 .rfl
 {obtain⟨r,s⟩:=z c j x;simp only[jx,s,g,f,i,ah0];simp[toL,Ty.beq_refl]};obtain⟨r,s⟩:=z c j x;rcases y with ⟨f,A,i,rfl⟩|⟨f,D,A,i,rfl⟩;{simp only[jx,s,g,f,i,ah0,B9];simp[toL,Ty.beq_refl]};simp only[jx,s,g,f,i];simp[toL,Ty.beq_refl]
def I0{s r p q x}(h:uv σ (.pair s r) (.mix p q)=aa x):∃(y:s.den) (z:r.den),uv σ s p=aa y/\uv σ r q=aa z/\x=(y,z):=by
 replace h:(match uv σ s p,uv σ r q with|some x,aa y=>aa _|_,_=>af)=aa x:=h
 grind
def Uy{s r p q y z}(b:uv σ s p=aa y)(c:uv σ r q=aa z):uv σ (.pair s r) (.mix p q)=aa ((y,z):(Ty.pair s r).den):=by
 show(match uv σ s p,uv σ r q with|some x,aa y=>aa _|_,_=>af)=aa _
 grind
def zE{p q}(h:jl σ (.mix p q)=aa bb):∃b4,jl σ p=aa b4/\jl b4 q=aa bb:=by unfold jl at h;grind
def sk{t}:∀{x},uv σ t .vN=aa x->(∀w I,bZ w I t x [.nilIface])/\(∀τ,uv τ t .vN=aa x)/\cX t [.nilIface]=.nilIface/\t.isAgg=false:=by induction t with|alt u a r g c =>(intro x h;have h:(match uv σ r .vN with|some x=>aa (aH x)|none=>af)=aa x:=h;cases f:uv σ r .vN with|none=>rw[f] at h;cases h|some y =>rw[f] at h;obtain rfl:=aU h;obtain⟨i,l,j,k⟩:=c f;refine⟨λw I=>i w I,λτ=>?_,j,k⟩;show(match uv τ r .vN with|some x=>aa _|none=>af)=_;grind)|DV=>intro x h;exact⟨λw I=>rfl,λτ=>rfl,rfl,rfl⟩|slice e=>intro x h;cases h|pair a b=>intro x h;cases h|_=>intro x h;cases h
def YD:∀{v t x σ bb u},uv σ t v=aa x->jl σ u=aa bb->uv bb t v=aa x:=by
 have one:∀{u e v l σ bb},jx e σ v=aa l->jl σ u=aa bb->jx e bb v=aa l:=by intro u;induction u with|mix p q f g =>intro e v l σ bb h c;simp only[jl] at c;grind|whole b aY=>intro e v l σ bb h c;exact GL h c|part b aY lo n=>intro e v l σ bb h c;exact GL h c|_=>intro e v l σ bb h c;obtain rfl:=aU c;exact h
 intro v;induction v with|data u y =>(intro t x σ bb u h c;cases t with|slice e=>exact one h c|_=>exact h)|mix p q f g =>(intro t x σ bb u h c;cases t with|pair s r =>(obtain⟨y,z,i,j,rfl⟩:=I0 h;exact Uy (f i c) (g j c))|slice e=>exact one h c|_=>cases h)|vN=>intro t x σ bb u h c;exact(sk h).2.1 _|_ =>intro t x σ bb u h c;cases t with|slice e=>exact one h c|_=>cases h
def Mi{γ mem v cs}(h:cK γ mem w v .cells cs)(b:dX v=1):∃c,cs=[c]:=by have:=h.length;rw[b] at this;exact adH.1 this
def abB:∀{v t x cs σ bb γ a},dz B N γ σ a w->cK γ σ.mem w v .cells cs->uv σ t v=aa x->jl σ v=aa bb ->
  ∃bM,dz B N bM bb a w/\Ext B γ σ.mem w bM bb.mem w/\bZ w bM.I t x cs:=by
 have A:∀{v e l cs σ bb γ a},dX v=1->(∀c,cK γ σ.mem w v .cells [c]->cK γ σ.mem w v .val [c])->dz B N γ σ a w->cK γ σ.mem w v .cells cs->jx e σ v=aa l->jl σ v=aa bb ->
   ∃bM,dz B N bM bb a w/\Ext B γ σ.mem w bM bb.mem w/\bZ w bM.I (.slice e) l cs:=by
  intro v e l cs σ bb γ a C m h i f j;obtain⟨c,rfl⟩:=Mi i C;exact IZ h (m c i) f j
 intro v;induction v with|data u y =>((intro t x cs σ bb γ a h i f j;obtain rfl:=aU j;have key:(∃q:u=t,x=q▸y):=by cases t with|slice e =>(rcases oC f with g|⟨g,_⟩|⟨_,_,_,g,_⟩|⟨_,_,_,_,_,g,_⟩;{injection g with L M;subst L;exact⟨rfl,(eq_of_heq M).symm⟩};{cases g};{cases g};cases g)|_=>exact Ty.lZ f);obtain⟨q,D⟩:=key;subst q;subst D;exact⟨γ,h,Ext.refl _ _ _ _,i⟩)|mix p q E F =>(intro t x cs σ bb γ a h i f j;cases t with|pair s r =>(obtain⟨O,Q,rfl,C,R⟩:=i;obtain⟨y,z,S,D,rfl⟩:=I0 f;obtain⟨b4,o,G⟩:=zE j;obtain⟨T,U,K,V⟩:=E h C S o;obtain⟨H,W,J,X⟩:=F U (R.ext K) (YD D o) G;exact⟨H,W,K.trans J,O,Q,rfl,bZ.mono J.I J.cells V,X⟩)|slice e=>exact absurd f ch|_=>cases f)|qq =>(intro t x cs σ bb γ a h i f j;cases t with|slice e=>exact A (v:=.qq) rfl (λc k=>k) h i f j|_=>cases f)|whole b aY =>(intro t x cs σ bb γ a h i f j;cases t with|slice e=>exact A (v:=.whole b aY) rfl (λc k=>k) h i f j|_=>cases f)|part b aY lo n =>(intro t x cs σ bb γ a h i f j;cases t with|slice e=>exact A (v:=.part b aY lo n) rfl (λc k=>k) h i f j|_=>cases f)|vN =>(intro t x cs σ bb γ a h i f j;obtain rfl:=aU j;obtain rfl:cs=[.nilIface]:=i;exact⟨γ,h,Ext.refl ..,(sk f).1 _ _⟩)|_ =>intro t x cs σ bb γ a h i f j;cases t with|slice e=>exact absurd f ch|_=>cases f
def oD{t x v val}(h:dz B N γ σ a w)(f:cK γ σ.mem w v .val [val])(g:Ea σ t v=aa (x,bb)) :
  ∃bM,dz B N bM bb a w/\Ext B γ σ.mem w bM bb.mem w/\cK bM bb.mem w (.data t x) .val [val]:=by
 unfold Ea at g;split at g
 .rename_i u y;split at g;{rename_i H o;obtain⟨rfl,rfl⟩:=b9 (aU g);obtain⟨q,z⟩:=Ty.lZ o;subst q;subst z;exact⟨γ,h,Ext.refl _ _ _ _,f⟩};cases g
 .split at g
  .rename_i y b4 c l;obtain⟨rfl,rfl⟩:=b9 (aU g);cases v with
   | data u A=>rename_i m;exact absurd rfl (m u A)
   | mix p q =>(obtain⟨C,D,E,F,G⟩:=f;obtain rfl:val=_:=by simpa using E);obtain⟨bM,i,j,k⟩:=abB h (show cK γ σ.mem w (.mix p q) .cells _ from⟨C,D,rfl,F,G⟩) c l;refine⟨bM,i,j,_,k,?_⟩;cases t with|pair s r=>rfl|slice e=>exact absurd c ch|_=>cases c
   | qq =>
     cases t with
     | slice e=>obtain⟨bM,i,j,k⟩:=IZ h f c l;exact⟨bM,i,j,_,k,rfl⟩
     | _=>cases c
   | whole b aY =>
     cases t with
     | slice e=>obtain⟨bM,i,j,k⟩:=IZ h f c l;exact⟨bM,i,j,_,k,rfl⟩
     | _=>cases c
   | part b aY lo n =>
     cases t with
     | slice e=>obtain⟨bM,i,j,k⟩:=IZ h f c l;exact⟨bM,i,j,_,k,rfl⟩
     | _=>cases c
   | vN =>
     obtain rfl:=aU l;obtain f:[val]=[Value.nilIface]:=f;obtain rfl:val=.nilIface:=by simpa using f
     exact⟨γ,h,Ext.refl ..,[.nilIface],(sk c).1 _ _,by rw[(sk c).2.2.1]⟩
   | _ =>
     cases t with
     | slice e=>exact absurd c ch
     | _=>cases c
  .cases g
end
end Go.Ge
namespace Go.Ge
open RowKit
section
variable {P:Program} {B:DW} {N:Nat} {γ:Gh} {σ bb:St} {a:Act} {w:World} {d:Option Nat} {cx:Ctx}
def abC{b:Box}{k c v f}(l:b.buf=false)(m:b.val=v)(h:(Pu v k f).run=aa c):({ b with val:=c }:Box).row=b.row:=by obtain⟨i,tid,o,s,u,r⟩:=b;subst l;subst m;cases i with|data t x =>(obtain⟨y,j,g⟩:=bind_some h;obtain rfl:=aU g;cases t with|arr n e=>cases k<;>exact absurd j ch|_=>rfl)|mix p q =>(cases k with|zero =>(obtain⟨y,j,g⟩:=bind_some h;obtain rfl:=aU g;rfl)|succ k =>obtain⟨y,j,g⟩:=bind_some h;obtain rfl:=aU g;rfl)|_=>exact absurd h ch
def ak7{bx:Box}{e:Ty}{l:List e.den}{i y}(b:bx.buf=true)(c:bx.val=.data (.slice e) l):({ bx with val:=.data (.slice e) (oo l i y) }:Box).row=bx.row:=by rw[Box.ec b c,Box.ec (bx:={ bx with val:=.data (.slice e) (oo l i y) }) b rfl];simp[oo]
def Mj{f:Box}{p v c}(h:(VO f.buf p f.val v).run=aa c)(o:p=[]->f.buf=false->({ f with val:=v }:Box).row=f.row) :
  ({ f with val:=c }:Box).row=f.row:=by
 unfold VO at h;split at h
 .rename_i b;cases p with
  | nil=>obtain rfl:=aU h;exact o rfl b
  | cons s p =>
    cases s with
    | gE k off=>exact abC b rfl h
    | idx i size =>
      simp only[Ca] at h;split at h
      .rename_i n e l j;obtain⟨x,q,m⟩:=ck h;obtain⟨z,r,g⟩:=bind_some m;split at g
       .obtain rfl:=aU g;rw[Box.tc b j];exact Box.tc b rfl
       .exact absurd g ch
      .exact absurd h ch
 .rename_i b;split at h
  .rename_i i size p e l j;obtain⟨x,q,m⟩:=ck h;obtain⟨z,r,g⟩:=bind_some m;split at g
   .obtain rfl:=aU g;exact ak7 b j
   .exact absurd g ch
  .exact absurd h ch
def GM(h:dz B N γ σ a w){b aY p fit u es}(H:(storeAt b aY p fit u σ).run=aa bb)(hu:cK γ σ.mem w u .cells es)
  (L:∀A,fit A=true->es.length=dX A) (air:∀C:Box,fit C.val=true->C.buf=false->({ C with val:=u }:Box).row=C.row) {blk cap} (J:γ.loc b=aa (blk,cap)) : ∃w',(storeCells ⟨blk,er p,af⟩ es).run P w=.ok () w'/\dz B N γ bb a w'/\Ext B γ σ.mem w γ bb.mem w':=by
 unfold storeAt at H;split at H
 case h_2=>exact absurd H ch
 rename_i C hb;obtain⟨hc,hr2⟩:=aD H;simp at hc;obtain⟨⟨asQ,hlk⟩,M⟩:=hc;obtain⟨A,r,hr3⟩:=bind_some hr2;obtain⟨O,hr4⟩:=aD hr3;obtain⟨c,K,hr5⟩:=bind_some hr4;obtain rfl:=aU hr5;have D:=L A O;have Q:=Mj K λhp g=>by subst hp;rw[g] at r;obtain rfl:=aU r;grind
 have m:=h.ok.boxes b C hb;unfold e7 at m;have hbb:C.buf=false\/C.buf=true:=by cases C.buf<;>simp
 rcases hbb with g|g
 .rw[g] at m r K;obtain⟨R,S,f,tid,T,h1,h2,F,n,U⟩:=m;rw[J] at h1;obtain⟨rfl,rfl⟩:=b9 (aU h1);obtain⟨k1,k2⟩:=zD U r;have o:er p+es.length<=f.toList.length:=by rw[D];exact k1
  have V:(bk f.toList (er p) es).toArray.size=f.size:=by have:=bS o;simpa using this
  obtain⟨m1,W⟩:=h.ok.write hb M J h2 (cur':=(bk f.toList _ es).toArray) V Q (λw' cS t hg=>by simp only[g];exact⟨blk,cap,_,tid,T,J,hg,F.same V,n,by simpa using Ci (U.ext t) r K (hu.ext t) D⟩)
  exact⟨_,(dn (P:=P) blk _ tid T es 0 f w h2 F (by simpa using o) λv hv=>hu.one v hv),h.go W m1,W⟩
 .rw[g] at m r K;obtain⟨e,l,h1,h2,F⟩:=m;rw[h1] at r K;rcases F with ⟨F,_⟩|⟨R,S,f,tid,T,F,U,h5,n,h6,h7,h8,h9⟩;{grind};rw[J] at F;obtain⟨rfl,rfl⟩:=b9 (aU F);cases p with|nil=>cases r|cons s p =>cases s with|gE k off=>cases r|idx i size =>obtain⟨hsb,hn2⟩:=aD r;obtain⟨x,t,X⟩:=ck hn2;obtain⟨x',hx',hs2⟩:=ck K;obtain rfl:x=x':=aU (t.symm.trans hx');obtain⟨z,hq,E⟩:=bind_some hs2;cases hz:toS e z with|none=>rw[hz] at E;cases E|some y =>(rw[hz] at E;obtain rfl:=aU E;obtain⟨h0,Y⟩:=vO t;have H:=h9 _ x Y;have hi:=(ga.1 Y).1;have hm2:(i.toNat+1)*e.size<=cap*e.size:=hL _ ai;rw[Dq] at hm2;have Z:cK γ σ.mem w (.data e x) .cells _:=H;obtain⟨k1,k2⟩:=zD Z X;rw[H.length] at k1;have hcs:f.toList.length=cap*e.size:=by simpa using h8);(have G:er (.idx i size::p)=i.toNat*e.size+er p:=by simp only[er,(iN hsb)]);(have o:er (.idx i size::p)+es.length<=f.toList.length:=by rw[G];omega);(have q:(bk f.toList (er (.idx i size::p)) es).toArray.size=f.size:=by have:=bS o;simpa using this);(obtain⟨m1,W⟩:=h.ok.write hb M J U (cur':=(bk f.toList _ es).toArray) q Q (λw' cS t hg=>by simp only[g];refine⟨e,_,rfl,h2,.inr ⟨blk,cap,_,tid,T,J,hg,h5.same q,n,gS (GI ahQ) h6,h7,by rw[q];exact h8,?_⟩⟩;have hzz:=Oz hz (Ci (Z.ext t) X hq (hu.ext t) D);have:=PI rfl (by rw[hcs];exact hL _ h6) (λj x hj=>bZ.mono t.I t.cells (h9 j x hj)) hi hzz;rw[(vd f.toList _ _ e.size es (by rw[D];exact k1) ai),<-G] at this;exact this));exact⟨_,(dn blk _ tid T es 0 f w U h5.th (by simpa using o) λv hv=>hu.one v hv),h.go W m1,W⟩
def afm{mem}:∀{t x cs},bZ w γ.I t x cs->cK γ mem w (ah8 t x) .cells cs:=by intro t;induction t with|pair a b f c=>(intro x cs h;obtain⟨g,i,e,j,k⟩:=h;exact⟨g,i,e,j,c k⟩)|_=>intro x cs h;exact h
def Uz{mem v cs}(h:cK γ mem w v .cells cs):cK γ mem w (ah9 v) .cells cs:=by cases v with|data t x=>exact afm h|_=>exact h
def YE{bx:Box}(e:bx.buf=false)(c:aic bx.val=true):bx.row=none:=by unfold Box.row;rw[e];obtain⟨b,tid,f,h,i,g⟩:=bx;cases b with|data t x=>(cases t<;>first|rfl|cases c)|mix p q=>rfl|_=>cases c
def SO(h:dz B N γ σ a w){b aY p n u es}(q:(u6 b aY p n u σ).run=aa bb)(E:cK γ σ.mem w u .cells es)
  (i:es.length=n) {blk cap} (r:γ.loc b=aa (blk,cap)) : ∃w',(storeCells ⟨blk,er p,af⟩ es).run P w=.ok () w'/\dz B N γ bb a w'/\Ext B γ σ.mem w γ bb.mem w':=by
 unfold u6 at q;split at q
 case h_2=>exact absurd q ch
 rename_i bx F;obtain⟨G,s⟩:=aD q;simp at G;obtain⟨⟨⟨⟨H,U⟩,t⟩,e⟩,x⟩:=G;obtain⟨V,I,y⟩:=bind_some s;obtain⟨j,z⟩:=aD y;obtain⟨c,W,A⟩:=bind_some z;obtain⟨C,D⟩:=aD A;obtain rfl:=aU D;have k:=i.trans (iN j).symm;have g:=h.ok.boxes b bx F;unfold e7 at g;rw[e] at g;obtain⟨J,K,f,tid,L,M,O,Q,l,R⟩:=g;rw[r] at M;obtain⟨rfl,rfl⟩:=b9 (aU M);obtain⟨X,k2⟩:=zD (Uz R) I;have m:er p+es.length<=f.toList.length:=by rw[k];exact X
 have o:(bk f.toList (er p) es).toArray.size=f.size:=by have:=bS m;simpa using this
 obtain⟨m1,S⟩:=h.ok.write F t r O (cur':=(bk f.toList _ es).toArray) o ((YE (bx:={ bx with val:=c }) e C).trans (YE e x).symm) (λw' cS T Y=>by simp only[e];exact⟨blk,cap,_,tid,L,r,Y,Q.same o,l,by simpa using Ci (Uz<|R.ext T) I W (E.ext T) k⟩)
 exact⟨_,(dn blk _ tid L es 0 f w O Q (by simpa using m) λv Z=>E.one v Z),h.go S m1,S⟩
def Ek{ty blk off n v w'}(b:(Go.sizeOf ty).run P w=.ok n w)(e:v.cells.toList.length=n)(c:(storeCells ⟨blk,off,af⟩ v.cells.toList).run P w=.ok () w') :
  (Instr.storeAt ty (.pointer<|some ⟨blk,off,af⟩) v).run P w=.ok () w':=by
 simp only[Instr.storeAt,Instr.sureAddr,storeVar,Sem.run_bind,Sem.run_pure,Result.andThen_ok,b]
 grind
def Nk(D:fM P cx){bf ty x y}(h:dz B N γ σ a w)(E:(mY cx bf ty (dm σ x) (dm σ y) σ).run=aa bb) :
  ∃w' bM,(Instr.storeAt ty (a.eval x)<|a.eval y).run P w=.ok () w'/\dz B N bM bb a w'/\Ext B γ σ.mem w bM bb.mem w':=by
 have hv:=h.dm x;have hy:=h.dm y;unfold mY at E;split at E
 case h_2=>exact absurd E ch
 rename_i b aY p hx;rw[hx] at hv;split at E
 case h_2=>exact absurd E ch
 rename_i o Z;obtain⟨F,M⟩:=aD E;obtain⟨s,hn,A⟩:=bind_some M;obtain⟨O,Q,hl,l⟩:=bC Z (iN F) hv.2;obtain l:a.eval x=_:=by simpa using l
 rw[l];split at A
 .rename_i u z;obtain⟨r,f⟩:=aD A;have r:=jB r;have hD:=D.T _ _ r;cases R:du bf 8000000&&aib u _ with
  | true =>
    rw[R] at f;have how:=(Bool.and_eq_true_iff.1 R).2;have m:cK γ σ.mem w (dm σ y) .cells (a.eval y).cells.toList:=by
     refine hy.pq (λu' e=>?_) (λe=>?_)
     .rw[e] at how;cases how
     .rw[e] at how;cases how
    have C:dX (dm σ y)=u.size:=by
     unfold aib at how;split at how
     .rename_i e;rw[e];exact afj how
     .rename_i e;rw[e];exact PQ how
     .grind
    have c:(a.eval y).cells.toList.length=u.size:=by rw[m.length,C]
    obtain⟨w',K,G,H⟩:=SO h f m c hl;exact⟨w',γ,Ek (hD.sizeOf w) c K,G,H⟩
  | false =>
  rw[R] at f;split at f
  .rename_i y0 b4 hg;obtain⟨I,s1,s2,s3⟩:=oD h hy hg;obtain⟨cs,L,c2⟩:=s3;obtain S:a.eval y=_:=by simpa using c2
   have U:(a.eval y).cells.toList=cs:=by rw[S];exact vb L
   obtain⟨V,g1,g2,g3⟩:=s2.boxes b o Z;have W:I.loc b=aa (O,Q):=by
    have hv':V.aY=o.aY:=by
     unfold storeAt at f;split at f
     .rename_i bx2 hb2;obtain⟨D,_⟩:=aD f;simp_all
     .grind
    grind
   obtain⟨w',K,G,H⟩:=GM (P:=P) s1 f L (λs g=>by
    unfold anp at g;split at g
    .rename_i t q;obtain rfl:=Ty.eq_of_beq g;exact L.length
    .cases g) (λo g i=>by
    unfold anp at g;split at g
    .rename_i t q J;obtain rfl:=Ty.eq_of_beq g;cases t with
     | arr n e=>rw[Box.tc i J];exact Box.tc i rfl
     | _=>unfold Box.row;rw[i,J]
    .cases g) W
   refine⟨w',I,Ek (hD.sizeOf w) ?_ ?_,G,s2.trans H⟩
   .rw[U];exact L.length
   .grind
  .exact absurd f ch
 .obtain⟨r,f⟩:=aD A;simp at r;obtain⟨X,k⟩:=r;have key:∀{v},Cb cx ty v=true->isRef v=true->dX v=1/\(Go.sizeOf ty).run P w=.ok 1 w:=by
   intro v j Y;unfold Cb at j;split at j
   .cases Y
   .split at j
    .rename_i e r;exact⟨rfl,(D.T _ _ r).sizeOf w⟩
    .cases j
   .exact⟨rfl,(D.sL _ j).2.1 w⟩
   .exact⟨rfl,(D.sL _ j).2.1 w⟩
   .exact⟨rfl,(D.sL _ j).2.1 w⟩
   .cases j
  obtain⟨j,C⟩:=key X k;have m:cK γ σ.mem w (dm σ y) .cells (a.eval y).cells.toList:=by
   refine hy.pq (λu e=>?_) (λe=>?_)
   .rw[e] at k;cases k
   .rw[e] at k;cases k
  have c:(a.eval y).cells.toList.length=1:=by rw[m.length,j]
  obtain⟨w',K,G,H⟩:=GM h f m (λs g=>by
   simp at g;rcases g with g|g
   .rw[c,(key g.1 g.2).1]
   .rw[c];cases s<;>first|rfl|cases g) (λo g i=>by
   simp at g;have e1:∀{v} {o:Box},(isRef v=true\/ad3 v=true)->o.buf=false->o.val=v->o.row=none:=by
    intro v o j Y h3;unfold Box.row;rw[Y,h3];cases v<;>first|rfl|(rcases j with j|j<;>cases j)
   rw[e1 (g.elim (λq=>.inl q.2) .inr) i rfl];exact e1 (.inl k) i rfl) hl
  exact⟨w',γ,Ek C c K,G,H⟩
def uN t v:(newVar t v).run P w=.ok ⟨w.heap.size,0,af⟩ (w.alloc<|.cells v.cells t):=by simp[newVar,newRow]
def FG{mem w' b c cap}:cK (bT γ b<|some (w.heap.size,cap)) (dh mem b c) w' (.ptr b c.aY []) .val [.pointer<|some ⟨w.heap.size,0,af⟩] :=⟨⟨_,rfl,rfl⟩,gI (bK _ _) rfl ⟨w.heap.size,cap,by simp[bT],rfl⟩⟩
def YF(j:fM P cx){b:TypeId}{nb k t}(h:dz B N γ σ a w)(l:k<N)(m:find cx.T b=aa t)
  (n:(σ.bH (nb+k) (.data t t.zero) 0 false λc σ=>.ret (σ.put k<|.ptr (nb+k) c [])).run=aa bb) : pr P B N γ σ a w (aa k) (Instr.alloc b true<|.tuple #[]) bb:=by
 obtain⟨c,e,f⟩:=ef n;obtain rfl:=aU f;obtain⟨z,o,g⟩:=(j.T _ _ m).zero w;obtain⟨m1,i⟩:=h.ok.newVar (v:=.data t t.zero) e b (.inl rfl) (by rw[g];exact po w γ.I t);refine⟨.pointer _,_,_,?_,h.step i m1 l FG,i⟩;simp only[Instr.alloc,Sem.run_bind,o,Result.andThen_ok,uN,Sem.run_pure]
def Nl(j:fM P cx){b:TypeId}{nb k}(h:dz B N γ σ a w)(l:k<N)(m:du cx.sL b=true)
  (n:(σ.bH (nb+k) .undef 0 false λe σ=>.ret (σ.put k<|.ptr (nb+k) e [])).run=aa bb) : pr P B N γ σ a w (aa k) (Instr.alloc b true<|.tuple #[]) bb:=by
 obtain⟨e,f,g⟩:=ef n;obtain rfl:=aU g;obtain⟨z,o,c⟩:=(j.sL _ m).2.2;obtain⟨m1,i⟩:=h.ok.newVar (v:=.undef) f (cs:=z.cells) b (.inl rfl) ⟨z,by cases z<;>first|rfl|(simp[Value.oneCell'] at c),c⟩;refine⟨.pointer _,_,_,?_,h.step i m1 l FG,i⟩;simp only[Instr.alloc,Sem.run_bind,o,Result.andThen_ok,uN,Sem.run_pure]
def YG{b aY}:∀{A j σ γ r},bP B γ σ.mem w->(mkObj b aY A j σ).run=aa r ->
  ∃c,bP B c r.2.mem w/\Ext B γ σ.mem w c r.2.mem w/\r.2.bw=σ.bw /\∀bM cS w',Ext B c r.2.mem w bM cS w'->(∃bx l m,cS b=aa bx/\aY<=bx.aY/\bM.loc b=aa (l,m))->cK bM cS w' r.1 .cells (PF A):=by
 intro A;induction A with|nil=>(intro j σ γ r h x;obtain rfl:=aU x;exact⟨γ,h,Ext.refl _ _ _ _,rfl,λ_ _ _ _ _=>rfl⟩)|cons f r C =>intro j σ γ q h x;cases f with|dat t =>(obtain⟨y,n,o⟩:=bind_some x;obtain rfl:=aU o;obtain⟨c,p,g,s,u⟩:=C h n;exact⟨c,p,g,s,λbM cS w' i k=>⟨_,_,rfl,po _ _ t,u bM cS w' i k⟩⟩)|one =>(obtain⟨y,n,o⟩:=bind_some x;obtain rfl:=aU o;obtain⟨c,p,g,s,u⟩:=C h n;exact⟨c,p,g,s,λbM cS w' i k=>⟨[.pointer af],_,rfl,rfl,u bM cS w' i k⟩⟩)|self =>(obtain⟨y,n,o⟩:=bind_some x;obtain rfl:=aU o;obtain⟨c,p,g,s,u⟩:=C h n;refine⟨c,p,g,s,λbM cS w' i k=>⟨[.pointer af],_,rfl,?_,u bM cS w' i k⟩⟩;obtain⟨bx,l,m,G,H,I⟩:=k;exact⟨⟨_,rfl,rfl⟩,bx,G,H,λ_=>⟨l,m,I,.inl rfl⟩⟩)|buf e J =>(obtain⟨K,D⟩:=aD x;have E:0<e.size:=by simpa using K);obtain⟨v,z,F⟩:=ef D;obtain⟨y,n,o⟩:=bind_some F;obtain rfl:=aU o;obtain⟨m1,L⟩:=h.PK z E;obtain⟨c,p,g,s,u⟩:=C m1 n;refine⟨c,p,L.trans g,s,λbM cS w' i k=>⟨[.slice af 0 0],_,rfl,?_,u bM cS w' i k⟩⟩;refine cK.ext (g.trans i) ?_;exact⟨⟨_,rfl,rfl⟩,gI (bK _ _) rfl ⟨e,0,rfl,rfl,.inl ⟨by simp[bT],rfl⟩⟩⟩
def Nn(s:fM P cx){b:TypeId}{nb k p}(h:dz B N γ σ a w)(t:k<N)(u:find cx.uu b=aa p)
  (v:((mkObj (nb+k) (Ot σ<|nb+k) p 0 σ).bind λr=>r.2.bH (nb+k) r.1 b false λaY σ=>.ret (σ.put k<|.ptr (nb+k) aY [])).run=aa bb) : pr P B N γ σ a w (aa k) (Instr.alloc b true<|.tuple #[]) bb:=by
 obtain⟨r,x,y⟩:=bind_some v;obtain⟨f,g,i,A,C⟩:=YG h.ok x;obtain⟨aY,c,j⟩:=ef y;obtain rfl:=aU j;obtain⟨z,D,l⟩:=afe (s.uu _ _ u) w;have m:Ot σ (nb+k)<=aY:=by unfold Ot;split;{rename_i bx n;obtain⟨E,G,H,_⟩:=i.boxes _ bx n;grind};grind
 let bx:Box:={ val:=r.1,tid:=b,buf:=false,ro:=false,lk:=false,aY }
 have q:yh B w (w.alloc<|.cells z.cells b):=(yh.refl _ _).alloc g.base _;have hx:=xA (L:=aa (w.heap.size,0)) g (bx:=bx) c q (cZ w _);have o:e7 (bT f (nb+k)<|some (w.heap.size,0)) _ _ (nb+k) bx :=
  ⟨w.heap.size,0,z.cells,b,_,by simp[bT],heap_alloc_new w _,vP _,.inr rfl,by
   rw[l];exact C _ _ _ hx ⟨bx,w.heap.size,0,bK _ _,m,by simp[bT]⟩⟩
 refine⟨.pointer<|some ⟨w.heap.size,0,af⟩,_,_,?_,?_,i.trans hx⟩
 .simp only[Instr.alloc,Sem.run_bind,D,Result.andThen_ok,uN,Sem.run_pure]
 .have:=h.step (i.trans hx) (g.add c q (cZ w _) (λF k e=>by obtain⟨rfl,rfl⟩:=b9 (aU e);exact⟨b8 _,aW⟩) o) t (FG);rw[<-A] at this;exact this
def Mk{b j v σ r}(c:(sU b [] j v σ).run=aa r):r=(v,σ):=by cases v with|data t x=>(cases t<;>first|(obtain rfl:=aU c;rfl)|cases c)|_=>cases c
def I3{b j f q v σ r}(c:(sU b (f::q) j v σ).run=aa r) :
  (∃x u y,v=.mix x u/\(sU b q (j+1) u σ).run=aa y/\r=(.mix x y.1,y.2)) \/ (∃e g u,v=.mix .qq u/\0<e.size/\(σ.bH (b*1000+999-j) (.data (.slice e) []) g true λh σ=>(sU b q (j+1) u σ).bind λx=>.ret (.mix (.whole (b*1000+999-j) h) x.1,x.2)).run=aa r):=by
 cases v with|mix a u =>(cases f with|dat t =>(cases a with|data n z =>(obtain⟨y,i,k⟩:=bind_some c;exact .inl ⟨_,u,y,rfl,i,(aU k).symm⟩)|_=>cases c)|one =>(cases a with|vM =>(obtain⟨y,i,k⟩:=bind_some c;exact .inl ⟨_,u,y,rfl,i,(aU k).symm⟩)|_=>cases c)|buf e g =>(cases a with|qq =>(obtain⟨m,l⟩:=aD c;exact .inr ⟨e,g,u,rfl,by simpa using m,l⟩)|_=>cases c)|self=>cases a<;>cases c)|_=>cases f<;>cases c
def Np(p:fM P cx){b:TypeId}{nb k bf t}(h:dz B N γ σ a w)(q:k<N)(r:find cx.T b=aa t)
  (j:(yf nb bf k t σ).run=aa bb):pr P B N γ σ a w (aa k) (Instr.alloc b true<|.tuple #[]) bb:=by
 unfold yf at j;split at j
 .rename_i e _;obtain⟨x,l⟩:=aD j;have m:0<e.size:=by simpa using x
  obtain⟨v,f,n⟩:=ef l;obtain⟨m1,s⟩:=h.ok.PK (tid:=0) f m;obtain⟨y,c,o⟩:=ef n;obtain rfl:=aU o;obtain⟨i,z,A,G,C,D⟩:=(p.T _ _ r).info;have E:(zeroValue b).run P w=.ok z w:=by simp[zeroValue,typeInfo,A,C]
  have g:cK (bT γ ((nb+k)*1000+999) af) (dh σ.mem ((nb+k)*1000+999) { val:=.data (.slice e) ([]),tid:=0,buf:=true,ro:=false,lk:=false,aY:=v }) w (.whole ((nb+k)*1000+999) v) .cells z.cells.toList:=by rw[D];exact⟨⟨_,rfl,rfl⟩,gI (bK _ _) rfl ⟨e,0,rfl,rfl,.inl ⟨by simp[bT],rfl⟩⟩⟩
  obtain⟨F,u⟩:=m1.newVar c b (.inl rfl) g;refine⟨.pointer _,_,_,?_,h.step (s.trans u) F q FG,s.trans u⟩;simp only[Instr.alloc,Sem.run_bind,E,Result.andThen_ok,uN,Sem.run_pure]
 .exact YF p h q r j
def SP{b}:∀{m j v σ γ r cs},bP B γ σ.mem w->cK γ σ.mem w v .cells cs->(sU b m j v σ).run=aa r ->
  ∃c,bP B c r.2.mem w/\Ext B γ σ.mem w c r.2.mem w/\r.2.bw=σ.bw/\cK c r.2.mem w r.1 .cells cs:=by
 intro m;induction m with|nil =>(intro j v σ γ r cs h l n;obtain rfl:=Mk n;exact⟨γ,h,Ext.refl _ _ _ _,rfl,l⟩)|cons f q G =>intro j v σ γ r cs h l n;rcases I3 n with ⟨x,u,y,rfl,o,rfl⟩|⟨e,I,u,rfl,J,p⟩;{obtain⟨s,t,rfl,z,A⟩:=l;obtain⟨c,C,g,D,E⟩:=G h A o;exact⟨c,C,g,D,s,t,rfl,z.ext g,E⟩};obtain⟨k,i,F⟩:=ef p;obtain⟨y,o,K⟩:=bind_some F;obtain rfl:=aU K;obtain⟨s,t,rfl,z,A⟩:=l;obtain⟨m1,H⟩:=h.PK i J;obtain⟨c,C,g,D,E⟩:=G m1 (A.ext H) o;obtain rfl:s=[.slice af 0 0]:=z;refine⟨c,C,H.trans g,D,[.slice af 0 0],t,rfl,?_,E⟩;refine cK.ext g ?_;exact⟨⟨_,rfl,rfl⟩,gI (bK _ _) rfl ⟨e,0,rfl,rfl,.inl ⟨by simp[bT],rfl⟩⟩⟩
def SQ{elem nb k x j}(h:dz B N γ σ a w)(l:k<N)(m:dm σ x≠.undef)(n:∀u,dm σ x≠.D0 u)
  (o:((sU (nb+k) j 0 (dm σ x) σ).bind λr=>r.2.bH (nb+k) r.1 elem false λb σ=>.ret (σ.put k<|.ptr (nb+k) b [])).run=aa bb) : pr P B N γ σ a w (aa k) (Instr.box elem<|a.eval x) bb:=by
 obtain⟨r,p,q⟩:=bind_some o;obtain⟨s,t,g,v,y⟩:=SP h.ok ((h.dm x).pq n λe=>absurd e m) p;obtain⟨b,c,f⟩:=ef q;obtain rfl:=aU f;obtain⟨m1,i⟩:=t.newVar c elem (.inr rfl) y;refine⟨.pointer<|some ⟨w.heap.size,0,af⟩,_,_,?_,?_,g.trans i⟩
 .simp only[Instr.box,Sem.run_bind,uN,Result.andThen_ok,Sem.run_pure]
 .have:=h.step (g.trans i) m1 l FG;rw[<-v] at this;exact this
def afn{elem nb k x}(h:dz B N γ σ a w)(i:k<N)(j:dm σ x≠.undef)(l:∀u,dm σ x≠.D0 u)
  (m:(σ.bH (nb+k) (dm σ x) 0 false λb σ=>.ret (σ.put k<|.ptr (nb+k) b [])).run=aa bb) : pr P B N γ σ a w (aa k) (Instr.box elem<|a.eval x) bb:=by
 obtain⟨b,c,f⟩:=ef m;obtain rfl:=aU f;obtain⟨m1,g⟩:=h.ok.newVar c elem (.inl rfl) ((h.dm x).pq l λe=>absurd e j);refine⟨.pointer _,_,_,?_,h.step g m1 i FG,g⟩;simp only[Instr.box,Sem.run_bind,uN,Result.andThen_ok,Sem.run_pure]
def ak9{mem}:∀{u v k vs},cK γ mem w u .many vs->nth u k=aa v->∃x,vs[k]?=aa x/\cK γ mem w v .val [x]:=by intro u;induction u with|mix p q f e =>(intro v k vs h b;obtain⟨c,r,rfl,g,i⟩:=h;cases k with|zero=>(obtain rfl:=aU b;exact⟨c,rfl,g⟩)|succ k=>obtain⟨x,j,l⟩:=e i b;exact⟨x,by simpa using j,l⟩)|_=>intro v k vs h b;exact absurd b ch
def SR{x k vs v}(h:dz B N γ σ a w)(e:∀k,d=aa k->k<N)(f:dm σ x=.D0 vs)(g:nth vs k=aa v) :
  pr P B N γ σ a w d (Instr.extract (a.eval x) k) (σ.bF d v):=by
 have hv:=h.dm x;rw[f] at hv;obtain⟨b,c,i⟩:=hv;obtain c:a.eval x=_:=by simpa using c
 obtain⟨y,j,l⟩:=ak9 i g;refine bU h e ?_ l;rw[c];have:b[k]?=aa y:=by simpa using j
 simp only[Instr.extract,this,Sem.run_pure]
def ait:∀{ops:List Operand} {cs},dz B N γ σ a w->KE (ops.map<|dm σ)=aa cs->cs.length=ops.length /\
  ∀(i:Nat) b aY,cs[i]?=aa (b,aY)->oz σ.mem b aY λ_=>∃c g,γ.loc b=aa (c,g)/\(ops.map a.eval)[i]?=aa (.pointer<|some ⟨c,0,af⟩):=by
 intro ops;induction ops with|nil=>(intro cs h f;obtain rfl:=aU f;exact⟨rfl,λi b aY k=>by cases k⟩)|cons o r q =>intro cs h f;have n:=h.dm o;unfold KE at f;split at f;{rename_i j;cases j};{rename_i D p E j;injection j with s t;subst t;rw[s] at n;cases l:KE _ with|none=>rw[l] at f;cases f|some u =>rw[l] at f;obtain rfl:=aU f;obtain⟨v,F⟩:=q h l;refine⟨by simp[v],λi b aY k=>?_⟩;cases i with|zero =>(obtain⟨rfl,rfl⟩:=b9 (aU k);obtain⟨x,y,z,A⟩:=n.2;refine⟨x,y,z,λe=>?_⟩;obtain⟨c,g,C,m⟩:=A e;obtain m:a.eval o=_:=by simpa using m);exact⟨c,g,C,by simp[m,er]⟩|succ i =>grind};cases f
def PT{f:Nat}{c:Array Operand}{cs}(h:dz B N γ σ a w)(g:∀k,d=aa k->k<N)(e:KE (c.toList.map<|dm σ)=aa cs) :
  pr P B N γ σ a w d (Instr.makeFunc (.func f) #[] (c.map a.eval)) (σ.bF d<|.fn f cs):=by
 obtain⟨j,m⟩:=ait h e;refine bU h g rfl ?_;refine⟨c.map a.eval,rfl,by rw[j];simp,λi b l n=>?_⟩
 grind
end
end Go.Ge
