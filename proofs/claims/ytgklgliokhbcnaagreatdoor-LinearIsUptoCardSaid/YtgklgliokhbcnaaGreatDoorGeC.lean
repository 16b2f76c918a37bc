import Derived.Test.YtgklgliokhbcnaaGreatDoorGeB
set_option linter.unusedVariables false
set_option linter.unusedSimpArgs false
set_option linter.unusedSectionVars false
set_option linter.defProp false
open Option renaming some->aa,none->af
open Sum renaming inr->az
namespace Go.Ge
open RowKit
section
variable {P:Program} {B:CG} {N:Nat} {γ:Gh} {σ aV:St} {a:Act} {w:World} {d:Option Nat} {cx:Ctx}
def JW{s b k f u}(e:P.underlying s=aa (.struct b))(g:b.toList[k]?=aa f)(h:Den P u f.type)(j:0<u.size) blk off :
  (Instr.fieldAt s (.pointer<|some ⟨blk,off,af⟩) k).run P w=.ok (.pointer<|some ⟨blk,off+f.offset,af⟩) w:=by
 have c:b[k]?=aa f:=by simpa using g
 have i:¬(u.size=0):=ah;simp only[Instr.fieldAt,Sem.run_bind,run_underlying e,Result.andThen_ok,c,Instr.sureAddr,Sem.run_pure,fieldPlace,h.sizeOf w,aK i,addr_add]
def SP{s b k f i}(g:P.underlying s=aa (.struct b))(h:b.toList[k]?=aa f)(j:P.info? f.type=aa i)(m:0<i.size) blk off :
  (Instr.fieldAt s (.pointer<|some ⟨blk,off,af⟩) k).run P w=.ok (.pointer<|some ⟨blk,off+f.offset,af⟩) w:=by
 have c:b[k]?=aa f:=by simpa using h
 have l:¬(i.size=0):=ah;have e:(Go.sizeOf f.type).run P w=.ok i.size w:=by simp[Go.sizeOf,typeInfo,j]
 simp only[Instr.fieldAt,Sem.run_bind,run_underlying g,Result.andThen_ok,c,Instr.sureAddr,Sem.run_pure,fieldPlace,e,aK l,addr_add]
def Fy{t s}(g:Den P t s){k u o}(e:x5 t k=aa u)(h:iX t k=aa o) :
  ∃(c:Array Field) (f:Field),P.underlying s=aa (.struct c)/\c.toList[k]?=aa f/\f.offset=o/\Den P u f.type/\0<u.size:=by
 cases t with|pair a b =>(obtain⟨c,j,i,_⟩:=g.pair;obtain⟨f,l,m,n,p⟩:=i.at e h;grind)|_=>cases k<;>cases e
def EF(G:ga P cx){s x k}(h:dG B N γ σ a w)(H:∀k,d=aa k->k<N)(r:(fu cx d s (dd σ x) k σ).run=aa aV) :
  py P B N γ σ a w d (Instr.fieldAt s (a.eval x) k) aV:=by
 have hv:=h.dd x;unfold fu at r;split at r
 .rename_i u y I;rw[I] at hv;obtain⟨J,c⟩:=aA r;split at c
  {(rename_i o t z S;obtain rfl:=aI c;obtain⟨g,l,U,K,V,W⟩:=hv;obtain K:a.eval x=_:=by simpa using K);obtain⟨t',z',X,Y,Z,e4,e5⟩:=Fx V S;cases X;obtain⟨O,f,A,C,Q,D,E⟩:=Fy (G.T _ _<|j7 J) Y Z;refine bM h H (by rw[K];exact JW A C D E g l) ⟨g,l+f.offset,(U.drop o).take t.size,rfl,e5,λj v F=>?_⟩;rw[kn] at F;split at F;{rw[vM] at F;have:=W _ v F;grind};cases F};cases c
 .rename_i b aR p I;rw[I] at hv;obtain⟨J,c⟩:=aA r;obtain⟨R,m,n⟩:=lL J;split at c
  .rename_i t hT;split at c
   .rename_i l u L hu;obtain rfl:=aI c;obtain⟨g,q,M,e⟩:=bp m n hv.2;obtain e:a.eval x=_:=by simpa using e
    obtain⟨O,f,A,C,Q,D,E⟩:=Fy (G.T _ _ hT) hu L;refine bM h H (by rw[e];exact JW A C D E g _) ⟨⟨_,rfl,rfl⟩,R,m,ah,λ_=>⟨g,q,M,?_⟩⟩;rw[CF];simp[er]
   .cases c
  .split at c
   .rename_i O hO;split at c
    .rename_i l L;obtain rfl:=aI c;obtain⟨g,q,M,e⟩:=bp m n hv.2;obtain e:a.eval x=_:=by simpa using e
     obtain⟨gs,f,i,A,C,Q,D,E⟩:=ahH (G.w9 _ _ hO) L;refine bM h H (by rw[e];exact SP A C D E g _) ⟨⟨_,rfl,rfl⟩,R,m,ah,λ_=>⟨g,q,M,?_⟩⟩;rw[CF];simp[er]
    .cases c
   .cases c
 .cases r
def Vp(i:ga P cx){e:TypeId}{k o u y v val}(j:find cx.T e=aa u)(l:cQ γ σ.mem w (.data u y) .val [val])(m:wR (.data u y) k=aa (o,v)) :
  ∃z,(Instr.field e val k).run P w=.ok z w/\cQ γ σ.mem w v .val [z]:=by
 obtain⟨cs,n,rfl⟩:=et.1 l;obtain⟨p,D,rfl,g,q,r,s⟩:=Fx n m;obtain⟨t,f,x,A,h,C,E⟩:=Fy (i.T _ _ j) g q;have b:u.isAgg=true:=by cases u<;>first|rfl|(cases k<;>cases g)
 refine⟨df p _,?_,_,s,rfl⟩;have c:t[k]?=aa f:=by simpa using A
 simp only[df,b,xZ,Instr.field,Sem.run_bind,run_underlying x,Result.andThen_ok,c,asAgg,Sem.run_pure,(DO C (cs:=cs.toArray) (off:=f.offset) (by rw[h];simpa using r) vV)];rw[h]
def oJ{t b h}(j:P.underlying t=aa (.slice b))(l:(Go.sizeOf b).run P w=.ok h w)(c e f g:Nat) k {i:Int} (m:0<=i) (n:i<f) :
  (Instr.indexAt t (.slice (aa ⟨c,e,af⟩) f g)<|.int k i).run P w=.ok (.pointer<|some ⟨c,e+i.toNat*h,af⟩) w:=by
 simp only[Instr.indexAt,asIntOf,Sem.run_bind,Sem.run_pure,Result.andThen_ok,run_underlying j,U8,m,n,y9,l,addr_add]
def B0{t b c n}(e:P.underlying t=aa (.array n b))(f:(Go.sizeOf b).run P w=.ok c w) blk off k {i:Int} (g:0<=i) (h:i<n) :
  (Instr.indexAt t (.pointer<|some ⟨blk,off,af⟩)<|.int k i).run P w=.ok (.pointer<|some ⟨blk,off+i.toNat*c,af⟩) w:=by
 simp only[Instr.indexAt,asIntOf,Sem.run_bind,Sem.run_pure,Result.andThen_ok,run_underlying e,Instr.sureAddr,U8,g,h,y9,f,addr_add]
def CH{i n}(h:within i n=true):0<=i/\i<n:=by simp only[within,gO,A6] at h;exact h
def kr{i j n}(h:inside i j n=true):0<=i/\i<=j/\j<=n:=by simp only[inside,gO,A6] at h;exact⟨h.1.1,h.1.2,h.2⟩
def GK{b aR e n}(h:Ba σ b aR=aa (e,n)):∃(i:eF) (k:Nat),σ.mem b=aa i/\i.aR=aR/\i.row=aa (e,k)/\n=k:=by
 unfold Ba at h;split at h
 {rename_i i j;cases c:Nat.beq i.aR aR with|false=>rw[c] at h;cases h|true =>rw[c] at h;split at h;{rename_i m l f g;obtain⟨rfl,rfl⟩:=eX (aI h);exact⟨i,_,j,gP c,by rw[eF.row,f,g],rfl⟩};{rename_i o m l f g;obtain⟨rfl,rfl⟩:=eX (aI h);exact⟨i,_,j,gP c,by rw[eF.row,f,g],rfl⟩};cases h};cases h
def eF.ec{bx:eF}{e:Ty}{l:List e.den}(b:bx.buf=true)(c:bx.val=.data (.slice e) l):bx.row=aa (e,l.length):=by rw[eF.row,b,c]
def eF.sV{b:eF}{e n l}(c:b.buf=false)(f:b.val=.data (.arr n e) l):b.row=aa (e,n):=by rw[eF.row,c,f]
def Bh(c:ga P cx){t e:Nat}(h:QS cx t=aa e):P.underlying t=aa (.slice e)/\dm cx.vP e=true:=by
 unfold QS at h;split at h
 {cases h};split at h;{rename_i u f;cases b:dm cx.vP u with|false=>rw[b] at h;cases h|true =>rw[b] at h;obtain rfl:=aI h;exact⟨c.els _ _ f,b⟩};cases h
def Yo{b aR i}:∀{m k},(Mr d b aR σ i m k).run=aa aV->∃j,k<=j/\j<k+m/\i=j/\aV=σ.bu d (.ptr b aR [.gR j j]):=by intro m;induction m with|zero=>intro k c;cases c|succ m e =>intro k c;have hn:=gV c;cases hi:aD i k with|true =>(rw[hi] at hn;obtain rfl:=aI hn;exact⟨k,b0 _,ah,by simpa [aD] using hi,rfl⟩)|false =>grind
def JX{q}(h:LB q=true):er q=0:=by
 unfold LB at h;split at h
 {simp[er,gP h]};cases h
def wT(R:ga P cx){ty x S i}(h:dG B N γ σ a w)(Y:∀k,d=aa k->k<N)(A:(eO cx d ty (dd σ x) i σ).run=aa aV) :
  py P B N γ σ a w d (Instr.indexAt ty (a.eval x)<|.int S i) aV:=by
 have hv:=h.dd x;unfold eO at A;split at A
 .rename_i u e l K F;rw[F] at hv;obtain⟨C,o⟩:=aA A;obtain rfl:=Ty.eq_of_beq C;obtain⟨y,hy,z⟩:=ck o;obtain rfl:=aI z;obtain⟨L,G⟩:=vT hy;obtain⟨M,H,I,k3,k4⟩:=(R.T _ _ K).slice;obtain⟨cs,E,t⟩:=et.1 hv;have hi:=(iQ.1 G).1;rcases E with ⟨_,E⟩|⟨f,J,r,E,h2,h3,h4⟩;{grind};rw[E] at t;have U:a.eval x=.slice _ _ r:=t;obtain⟨es,g1,V,O⟩:=h4 _ y G;refine bM h Y (by rw[U];exact oJ H (I.sizeOf w) f J _ r S L ah) ⟨f,J+i.toNat*u.size,es,rfl,O,λj v W=>?_⟩;grind
 .rename_i m u n e l K F;rw[F] at hv;obtain⟨C,o⟩:=aA A;simp only[gO] at C;obtain rfl:=Ty.eq_of_beq C.1;obtain rfl:=gP C.2;obtain⟨y,hy,z⟩:=ck o;obtain rfl:=aI z;obtain⟨L,G⟩:=vT hy;obtain⟨M,H,I,k3⟩:=(R.T _ _ K).arr;obtain⟨f,J,cs,E,h2,h3⟩:=hv;obtain E:a.eval x=_:=by simpa using E
  have hi:i.toNat<m:=by have:=(iQ.1 G).1;have:=h2.1;omega
  refine bM h Y (by rw[E];exact B0 H (I.sizeOf w) f J S L ah) ⟨f,J+i.toNat*u.size,_,rfl,(h2.2.2 _ y G),λj v W=>?_⟩;rw[kn] at W;split at W;{rw[vM] at W;have:=h3 _ v W;grind};cases W
 .rename_i u b X K F;rw[F] at hv;split at A
  .rename_i e n he;obtain⟨C,o⟩:=aA A;obtain rfl:=Ty.eq_of_beq C;obtain⟨hw,z⟩:=cX o;obtain rfl:=aI z;obtain⟨L,E⟩:=CH hw;obtain⟨Q,k,g,s,D,rfl⟩:=GK he;obtain⟨M,H,I,k3,k4⟩:=(R.T _ _ K).slice;obtain⟨e',n',g1,V,O⟩:=bp g s hv.2;rw[D] at V;obtain⟨rfl,rfl⟩:=eX (aI V);rcases O with ⟨O,Z⟩|⟨f,r,O,Z⟩;{exfalso;have hat:=h.ok.boxes b Q g;rw[eL,g1] at hat;obtain⟨e2,l,j1,j2,j3⟩:=hat;rcases j3 with ⟨_,j4⟩|⟨_,_,_,_,_,j3,_⟩;{rw[eF.ec g1 j1] at D;grind};grind}
   .obtain Z:a.eval x=_:=by simpa using Z
    refine bM h Y (by rw[Z];exact oJ H (I.sizeOf w) f 0 _ r S L E) ⟨⟨_,rfl,rfl⟩,Q,g,ah,λ_=>⟨f,r,O,by simp[er]⟩⟩
  .cases A
 .rename_i u b X lo n K F;rw[F] at hv;split at A
  .rename_i e n2 he;obtain⟨C,o⟩:=aA A;obtain rfl:=Ty.eq_of_beq C;obtain⟨hw,z⟩:=cX o;obtain rfl:=aI z;obtain⟨L,E⟩:=CH hw;obtain⟨Q,k,g,s,D,rfl⟩:=GK he;obtain⟨M,H,I,k3,k4⟩:=(R.T _ _ K).slice;obtain⟨e',n',V,O,Z,g5,base,r,g6,g7,g8,gF,g9⟩:=bp g s hv.2;rw[D] at V;obtain⟨rfl,rfl⟩:=eX (aI V);rcases g9 with g9|⟨f,c,g9,g10⟩
   .omega
   .obtain g6:a.eval x=_:=by simpa using g6
    refine bM h Y (by rw[g6,g10];exact oJ H (I.sizeOf w) f _ _ r S L ah) ⟨⟨_,rfl,rfl⟩,Q,g,ah,λ_=>⟨f,c,g9,?_⟩⟩;have:(plus lo i).toNat=lo.toNat+i.toNat:=by simp only[plus];omega
    simp only[er,this,iW,Gr]
  .cases A
 .rename_i m u b X p K F;rw[F] at hv;obtain⟨C,o⟩:=aA A;obtain⟨Q,g,s⟩:=lL C;obtain⟨hw,z⟩:=cX o;obtain rfl:=aI z;obtain⟨L,E⟩:=CH hw;obtain⟨M,H,I,k3⟩:=(R.T _ _ K).arr;obtain⟨f,r,hl,t⟩:=bp g s hv.2;obtain t:a.eval x=_:=by simpa using t
  refine bM h Y (by rw[t];exact B0 H (I.sizeOf w) f _ S L E) ⟨⟨_,rfl,rfl⟩,Q,g,ah,λ_=>⟨f,r,hl,?_⟩⟩;rw[CF];simp[er]
 .rename_i b X q e0 k0 lo n K F;rw[F] at hv;split at A
  .rename_i e he;obtain⟨C,o⟩:=aA A;simp at C;obtain⟨⟨hq,rfl⟩,hl⟩:=C;obtain⟨Q,g,s⟩:=lL hl;obtain⟨H,I⟩:=Bh R he;obtain⟨j,_,W,rfl,rfl⟩:=Yo o;obtain⟨_,f,c,g1,V,O,Z,base,r,g5,g6,g7⟩:=bp g s hv.2;obtain g5:a.eval x=_:=by simpa using g5
   rcases g7 with g7|g7
   .grind
   .rw[JX hq] at g7;have hj':(j:Int)<n.toNat:=ah;refine bM h Y (by rw[g5,g7];exact oJ H ((R.vP _ I).2.1 w) f _ _ r S ah hj') ⟨⟨_,rfl,rfl⟩,Q,g,ah,λ_=>⟨f,c,g1,?_⟩⟩;simp[er]
  .cases A
 .cases A
def KN(r:ga P cx){ty x s i}(h:dG B N γ σ a w)(z:∀k,d=aa k->k<N)(p:(nJ cx d ty (dd σ x) i σ).run=aa aV) :
  py P B N γ σ a w d (Instr.indexAt ty (a.eval x)<|.int s i) aV:=by
 have hv:=h.dd x;unfold nJ at p;split at p
 .rename_i b E q O Q R n e F G;rw[F] at hv;obtain⟨A,f⟩:=aA p;simp at A;obtain⟨⟨H,rfl⟩,I⟩:=A;obtain⟨J,g,l⟩:=lL I;obtain⟨K,L⟩:=Bh r G;split at f
  {(rename_i j;obtain⟨C,t⟩:=aA f;obtain rfl:=aI t;have C:=fy C;obtain⟨_,m,c,M,S,T,U,D,u,v,V,o⟩:=bp g l hv.2;obtain v:a.eval x=_:=by simpa using v);rcases o with o|o;{grind};rw[JX H] at o;have y:(j:Int)<n.toNat:=ah;show py P B N γ σ a w d (Instr.indexAt ty _<|.int s j) _;refine bM h z (by rw[v,o];exact oJ K ((r.vP _ L).2.1 w) m _ _ u s ah y) ⟨⟨_,rfl,rfl⟩,J,g,ah,λ_=>⟨m,c,M,?_⟩⟩;simp[er]};cases f
 .exact wT r h z p
def u8_in b:IntKind.u8.min<=u8 b/\u8 b<=IntKind.u8.max:=by have:=b.toNat_lt;have c:IntKind.u8.min=0:=aF;have e:IntKind.u8.max=255:=aF;simp only[u8];omega
def KO(C:ga P cx){ty x G i}(h:dG B N γ σ a w)(D:∀k,d=aa k->k<N)(j:(nK cx d ty (dd σ x) i σ).run=aa aV) :
  py P B N γ σ a w d (Instr.index ty (a.eval x)<|.int G i) aV:=by
 have hv:=h.dd x;unfold nK at j;split at j
 .rename_i s o p;rw[p] at hv;obtain⟨b,q,g⟩:=ck j;obtain rfl:=aI g;obtain⟨r,f⟩:=vT q;obtain⟨c,Q⟩:=zQ hv;refine bM h D ?_ (mkInt<|u8_in b);rw[c];have H:(⟨List.toArray s⟩:ByteArray)[i.toNat]?=aa b:=by have:=(iQ.1 f);obtain⟨I,J⟩:=this;rw[getElem?_pos _ i.toNat I];exact congrArg aa J
  simp only[Instr.index,asIntOf,Sem.run_bind,Sem.run_pure,Result.andThen_ok,run_underlying ((C.T _ _ o).str),r,H];rfl
 .rename_i m u n e l o p;rw[p] at hv;obtain⟨t,v⟩:=aA j;simp only[gO] at t;obtain rfl:=Ty.eq_of_beq t.1;obtain rfl:=gP t.2;obtain⟨y,q,g⟩:=ck v;obtain rfl:=aI g;obtain⟨r,f⟩:=vT q;obtain⟨K,L,E,R⟩:=(C.T _ _ o).arr;obtain⟨F,z,c⟩:=et.1 hv;have hi:i.toNat<m:=by have:=(iQ.1 f).1;have:=z.1;omega
  have M:_*u.size<=m*u.size:=ic _ hi;rw[KJ] at M;have O:=z.2.1;refine bM h D ?_ ⟨_,(z.2.2 _ y f),rfl⟩;have A:i<m:=ah;rw[c];show(Instr.index ty (.agg F.toArray) _).run P w=_;simp only[Instr.index,asIntOf,Sem.run_bind,Sem.run_pure,Result.andThen_ok,run_underlying L,r,A,U8,y9,E.sizeOf w,(DO E (cs:=F.toArray) (off:=i.toNat*u.size) cR vV)]
 .cases j
def sb0 isSlice len cap:(Instr.sliceBounds isSlice len cap af af af).run P w=.ok (0,len,cap) w:=by simp[Instr.sliceBounds]
def sbh isSlice (len cap:Nat) k {y:Int} (b:0<=y) (c:y<=cap):(Instr.sliceBounds isSlice len cap af (aa<|.int k y) af).run P w=.ok (0,y.toNat,cap) w:=by have e:0<=y/\y<=cap:=⟨b,c⟩;simp only[Instr.sliceBounds,Instr.sliceBound,asIntOf,Sem.run_bind,Sem.run_pure,Result.andThen_ok,e,U8,y9]
def sbl isSlice (len cap:Nat) k {y:Int} (b:0<=y) (c:y<=len):(Instr.sliceBounds isSlice len cap (aa<|.int k y) af af).run P w=.ok (y.toNat,len,cap) w:=by have e:0<=y/\y<=len:=⟨b,c⟩;simp only[Instr.sliceBounds,Instr.sliceBound,asIntOf,Sem.run_bind,Sem.run_pure,Result.andThen_ok,e,U8,y9]
def amP isSlice (len cap:Nat) k c {y b:Int} (e:0<=y) (g:y<=b) (f:b<=cap):(Instr.sliceBounds isSlice len cap (aa<|.int k y) (aa<|.int c b) af).run P w=.ok (y.toNat,b.toNat,cap) w:=by have h:0<=b/\b<=cap:=⟨ah,f⟩;have i:0<=y/\y<=b.toNat:=⟨e,ah⟩;simp only[Instr.sliceBounds,Instr.sliceBound,asIntOf];simp_all
def rW{lo hi n i j}(h:dG B N γ σ a w)(b:bounds σ n lo hi=aa (i,j)) isSlice (len cap:Nat) (hn:n=len) (s:len<=cap) (p:0<=i) (q:i<=j) (x:j<=n) :
  (Instr.sliceBounds isSlice len cap (lo.map a.eval) (hi.map a.eval) af).run P w=.ok (i.toNat,j.toNat,cap) w:=by
 have c:∀o k m,dd σ o=.data (.int k) m->a.eval o=.int k m:=λo k m e=>by have:=h.dd o;rw[e] at this;exact(wE this).1
 unfold bounds at b;cases lo with|none =>(cases hi with|none =>have:=sb0 (P:=P) (w:=w) isSlice len cap;grind|some o =>simp only at b;split at b;{rename_i k y f;obtain⟨rfl,g⟩:=eX (aI b);have e:=c o k _ f;rw[show y=j from g] at e;simp only[QP,e];exact sbh isSlice len cap k q ah};cases b)|some o =>cases hi with|none =>simp only at b;split at b;{rename_i k y f;have:=sbl (P:=P) (w:=w) isSlice len cap k p ah;grind};cases b|some o2 =>simp only at b;split at b;{rename_i k y r t f l;obtain⟨u,v⟩:=eX (aI b);have e:=c o k _ f;have g:=c o2 r _ l;rw[show y=i from u] at e;rw[show t=j from v] at g;simp only[QP,e,g];exact amP isSlice len cap k r p q ah};cases b
def aeY s {i j} (b:0<=i) (c:i<=j):(⟨s.toArray⟩:ByteArray).extract i.toNat j.toNat=⟨(sub s i<|minus j i).toArray⟩:=by
 have:(minus j i).toNat=j.toNat-i.toNat:=by simp only[minus];omega
 apply ByteArray.ext;simp[sub,this]
def Yp{α}(s:List α) i n:(sub s i n).length<=s.length:=by simp only[sub,dw,rV];omega
def aeZ{I e}{l:List e.den}{blk off cap i j}(h:∀k x,l[k]?=aa x->∃b,b.length=e.size /\
   (∀q v,b[q]?=aa v->w.cell? ⟨blk,off+k*e.size+q,af⟩=aa v/\I blk (off+k*e.size+q))/\bL w I e x b) (m:i<=j) (n:j<=l.length) (o:l.length<=cap) (p:cap<=maxLen) base
  (f:base=aa ⟨blk,off+i*e.size,af⟩\/(i=cap/\base=aa ⟨blk,off,af⟩)) : bL w I (.slice e) ((l.drop i).take<|j-i) [.slice base (j-i)<|cap-i]:=by
 rcases f with rfl|⟨rfl,rfl⟩
 .refine .inr ⟨blk,off+i*e.size,cap-i,?_,?_,ah,λk x g=>?_⟩;{grind};{grind}
  .grind
 .have c:j=i:=ah;subst c;refine .inr ⟨blk,off,0,aT,aT,ah,λk x g=>?_⟩;grind
def sub_eq{α}(l:List α){i j}(b:0<=i)(c:i<=j):sub l i (minus j i)=(l.drop i.toNat).take (j.toNat-i.toNat):=by
 have:(minus j i).toNat=j.toNat-i.toNat:=by simp only[minus];omega
 rw[sub,this]
def sub_zero{α}(l:List α):sub l 0 (minus 0 0)=[]:=by simp[sub,minus]
def ab1{I e l blk off cap i j}(c:∀k x,l[k]?=aa x->∃b,b.length=e.size /\
   (∀q v,b[q]?=aa v->w.cell? ⟨blk,off+k*e.size+q,af⟩=aa v/\I blk (off+k*e.size+q))/\bL w I e x b) (f:0<=i) (g:i<=j) (o:j<=l.length) (h:l.length<=cap) (m:cap<=maxLen) base
  (n:base=aa ⟨blk,off+i.toNat*e.size,af⟩\/(i.toNat=cap/\base=aa ⟨blk,off,af⟩)) : bL w I (.slice e) (sub l i<|minus j i) [.slice base (j.toNat-i.toNat)<|cap-i.toNat]:=by
 rw[sub_eq l f g];exact aeZ c ah ah h m base n
def x9.sub{base cap}(h:x9 base cap) i s:x9 (if cap=i then base else base.map (·.add s)) (cap-i):=by
 rcases h with rfl|⟨b,c,rfl⟩
 {exact .inl ah};refine .inr ?_;split;{grind};exact⟨b,c+s,by rw[QP,addr_add]⟩
def GD.sub{f b lo i base cap}(h:GD γ f b lo base cap)(j:0<=lo)(n:0<=i) s :
  GD γ f b (plus lo i) (if cap=i.toNat then base else base.map (·.add (i.toNat*s))) (cap-i.toNat):=by
 intro e k;have l:lo=0:=by simp only[plus] at e;omega
 have m:i=0:=by simp only[plus] at e;omega
 subst l;subst m;rcases h rfl k with ⟨g,rfl,rfl⟩|⟨c,g,rfl⟩
 .grind
 .refine .inr ⟨c,by simpa using g,?_⟩;split
  .rfl
  .simp[Addr.add]
def KP(hc:ga P cx){ty:TypeId}{x:Operand}{lo hi:Option Operand}(h:dG B N γ σ a w)(hd:∀k,d=aa k->k<N)(F:(nI cx d ty (dd σ x) lo hi σ).run=aa aV) :
  py P B N γ σ a w d (Instr.sliceAt ty (a.eval x) (lo.map a.eval) (hi.map a.eval) af) aV:=by
 have hv:=h.dd x;unfold nI at F;split at F
 ·
  rename_i s O Q;rw[Q] at hv;split at F
  .rename_i i j G;obtain⟨A,r⟩:=cX F;obtain rfl:=aI r;obtain⟨D,J,E⟩:=kr A;obtain⟨p,hl⟩:=zQ hv;have hu:=(hc.T _ _ O).str;have y:=rW (P:=P) h G false (List.length (α:=UInt8) s) (List.length (α:=UInt8) s) rfl (b0 _) D J E;refine bM h hd (x:=.string ⟨(sub (α:=UInt8) s i<|minus j i).toArray⟩) ?_ (mkStr<|fB (Yp (α:=UInt8) s _ _) hl);rw[p];have X6:(⟨List.toArray (α:=UInt8) s⟩:ByteArray).size=List.length (α:=UInt8) s:=rfl;simp only[Instr.sliceAt,Instr.slice,Sem.run_bind,run_underlying hu,Result.andThen_ok,X6,Option.isSome_none,Bool.false_eq_true,if_false];rw[y];simp only[Result.andThen_ok,Sem.run_pure];rw[aeY (show bb from s) D J]
  .cases F
 ·
  rename_i u e l O Q;rw[Q] at hv;obtain⟨t,o⟩:=aA F;obtain rfl:=Ty.eq_of_beq t;split at o
  .rename_i i j G;obtain⟨A,r⟩:=cX o;obtain rfl:=aI r;obtain⟨D,J,E⟩:=kr A;obtain⟨Z,U,V,k3,k4⟩:=(hc.T _ _ O).slice;obtain⟨cs,amQ,p⟩:=et.1 hv;have H:len (α:=u.den) l=(List.length (α:=u.den) l:Int):=rfl;rcases amQ with ⟨⟨K,e1⟩,e2⟩|⟨b,R,f,e1,e2,e3,e4⟩
   .have L:a.eval x=.slice K 0 0:=by rw[p,e1];rfl
    have M:List.length (α:=u.den) l=0:=by rw[show l=([]:List u.den) from e2];rfl
    rw[H,M] at E;have hi0:i=0:=ah;have hj0:j=0:=ah;subst hi0;subst hj0;have y:=rW (P:=P) h G true 0 0 (by rw[H,M]) (b0 _) D J (by rw[H,M];exact E);refine bM h hd (x:=.slice K 0 0) ?_ ⟨_,.inl ⟨⟨K,rfl⟩,?_⟩,rfl⟩
    .rw[L];simp only[Instr.sliceAt,Instr.slice,Sem.run_bind,run_underlying U,Result.andThen_ok,y,V.sizeOf w,Sem.run_pure];rfl
    .exact sub_zero (α:=u.den) l
   .have L:a.eval x=.slice (aa ⟨b,R,af⟩) (List.length (α:=u.den) l) f:=by rw[p,e1];rfl
    have y:=rW (P:=P) h G true (List.length (α:=u.den) l) f H e2 D J E;have hj:j.toNat<=List.length (α:=u.den) l:=by rw[H] at E;omega
    have alx:=ab1 (w:=w) (i:=i) (j:=j) e4 D J (by rw[H] at E;exact E) e2 e3;refine bM h hd (x:=.slice (if f=i.toNat then aa ⟨b,R,af⟩ else aa ⟨b,R+i.toNat*u.size,af⟩) (j.toNat-i.toNat) (f-i.toNat)) ?_
     ⟨_,alx (if f=i.toNat then aa ⟨b,R,af⟩ else aa ⟨b,R+i.toNat*u.size,af⟩) (by
      split
      .rename_i v;exact .inr ⟨v.symm,rfl⟩
      .exact .inl rfl),rfl⟩
    rw[L];simp only[Instr.sliceAt,Instr.slice,Sem.run_bind,run_underlying U,Result.andThen_ok,y,V.sizeOf w,Sem.run_pure,QP,addr_add]
  .cases o
 ·
  rename_i u c aR lo' n O Q;rw[Q] at hv;split at F
  .rename_i W z;obtain⟨t,o⟩:=aA F;simp only[gO] at t;have C:=gP t.1;split at o
   .rename_i i j G;obtain⟨A,r⟩:=cX o;obtain rfl:=aI r;obtain⟨D,J,E⟩:=kr A;obtain⟨Z,U,V,k3,k4⟩:=(hc.T _ _ O).slice;obtain⟨e',k,g2,X,g4,g5,g,f,g6,g7,g8,gF,g9⟩:=bp z C hv.2;have hue:u=e':=by
     have:=t.2;rw[g2] at this;exact Ty.eq_of_beq this
    subst hue;obtain g6:a.eval x=_:=by simpa using g6
    have y:=rW (P:=P) h G true n.toNat f ah g7 D J E;refine bM h hd (x:=.slice (if f=i.toNat then g else g.map (·.add (i.toNat*u.size))) (j.toNat-i.toNat) (f-i.toNat)) ?_
     ⟨⟨_,rfl,rfl⟩,W,z,ah,λ_=>⟨u,k,g2,by simp only[plus];omega,by simp only[minus];omega,by simp only[plus,minus];omega,(if f=i.toNat then g else g.map (·.add (i.toNat*u.size))),f-i.toNat,?_,?_,?_,⟨gF.1.sub _ _,gF.2.sub X D _⟩,?_⟩⟩
    .rw[g6];simp only[Instr.sliceAt,Instr.slice,Sem.run_bind,run_underlying U,Result.andThen_ok,y,V.sizeOf w,Sem.run_pure]
    .have:(minus j i).toNat=j.toNat-i.toNat:=by simp only[minus];omega
     rw[this]
    .simp only[minus];omega
    .omega
    .rcases g9 with g9|⟨b,c',g9,g10⟩
     .exact .inl (by simp only[minus];omega)
     .by_cases v:f=i.toNat
      .exact .inl (by simp only[minus];omega)
      .refine .inr ⟨b,c',g9,?_⟩;rw[aK v,g10];have:(plus lo' i).toNat=lo'.toNat+i.toNat:=by simp only[plus];omega
       simp only[QP,addr_add,this,iW]
   .cases o
  .cases F
 ·
  rename_i u c aR O Q;rw[Q] at hv;split at F
  .rename_i W z;obtain⟨t,o⟩:=aA F;simp only[gO] at t;have C:=gP t.1;split at o
   .rename_i e l hbv;obtain⟨hue,r⟩:=aA o;obtain rfl:=Ty.eq_of_beq hue;obtain⟨Z,U,V,k3,k4⟩:=(hc.T _ _ O).slice;obtain⟨e',n',g1,g2,X⟩:=bp z C hv.2;have ae0:W.row=aa (u,List.length (α:=u.den) l):=eF.ec t.2 hbv;rw[ae0] at g2;obtain⟨rfl,rfl⟩:=eX (aI g2);have hat:=h.ok.boxes c W z;rw[eL,g1] at hat;obtain⟨e2,l2,j1,j2,j3⟩:=hat;have aly:∃g f,a.eval x=.slice g (List.length (α:=u.den) l) f/\List.length (α:=u.den) l<=f/\f<=maxLen/\(((f=0/\List.length (α:=u.den) l=0)/\γ.loc c=af/\g=af)\/∃b,γ.loc c=aa (b,f)/\g=aa ⟨b,0,af⟩):=by
     rw[hbv] at j1;cases j1;rcases X with ⟨X,g4⟩|⟨b,f,X,g4⟩
     .obtain g4:a.eval x=_:=by simpa using g4
      rcases j3 with ⟨_,j4⟩|⟨_,_,_,_,_,j3,_⟩
      .have M:List.length (α:=u.den) l=0:=by rw[j4];rfl
       exact⟨af,0,by rw[g4,M],ah,pq _,.inl ⟨⟨rfl,M⟩,X,rfl⟩⟩
      .rw[X] at j3;cases j3
     .obtain g4:a.eval x=_:=by simpa using g4
      rcases j3 with ⟨j3,_⟩|⟨MJ,ae1,cur,tid,fr,q1,Y,q3,ae2,q4,q5,q6,q7⟩
      .rw[X] at j3;cases j3
      .rw[X] at q1;obtain⟨rfl,rfl⟩:=eX (aI q1);exact⟨_,f,g4,q4,q5,.inr ⟨b,X,rfl⟩⟩
    obtain⟨g,f,m1,m2,m3,m4⟩:=aly;have hF:x9 g f:=by
     rcases m4 with ⟨⟨Y,_⟩,_⟩|⟨b,q1,Y⟩
     .exact .inl Y
     .exact .inr ⟨b,0,Y⟩
    have hZ:GD γ W c 0 g f:=λ_ _=>by
     rcases m4 with ⟨⟨Y,_⟩,q3,q4⟩|⟨b,q1,Y⟩
     .exact .inl ⟨q3,q4,Y⟩
     .exact .inr ⟨b,q1,Y⟩
    have I:∀{i j:Int},bounds σ (len (α:=u.den) l) lo hi=aa (i,j)->0<=i->i<=j->j<=len (α:=u.den) l ->
      (Instr.sliceAt ty (a.eval x) (lo.map a.eval) (hi.map a.eval) af).run P w=.ok (.slice (if f=i.toNat then g else g.map (·.add (i.toNat*u.size))) (j.toNat-i.toNat)<|f-i.toNat) w:=by
     intro i j G D J E;have y:=rW (P:=P) h G true (List.length (α:=u.den) l) f rfl m2 D J E;rw[m1];simp only[Instr.sliceAt,Instr.slice,Sem.run_bind,run_underlying U,Result.andThen_ok,y,V.sizeOf w,Sem.run_pure]
    split at r
    .obtain rfl:=aI r;have:=I (i:=0) (j:=len (α:=u.den) l) rfl ah (by simp only[len];omega) ah;have hjl:(len (α:=u.den) l).toNat=List.length (α:=u.den) l:=by simp[len]
     rw[hjl] at this;refine bM h hd (x:=a.eval x) ?_ hv;rw[this,m1]
     congr 1
     have:(g.map (·.add ((0:Int).toNat*u.size)))=g:=by cases g<;>simp[Addr.add]
     rw[this];simp
    .split at r
     .rename_i i j G;obtain⟨A,S⟩:=cX r;obtain rfl:=aI S;obtain⟨D,J,E⟩:=kr A;have H:len (α:=u.den) l=(List.length (α:=u.den) l:Int):=rfl;rw[H] at E;refine bM h hd (I G D J E)
       ⟨⟨_,rfl,rfl⟩,W,z,ah,λ_=>⟨u,_,ae0,D,by simp only[minus];omega,by simp only[minus];omega,(if f=i.toNat then g else g.map (·.add (i.toNat*u.size))),f-i.toNat,?_,?_,?_,⟨hF.sub _ _,by have:=hZ.sub (uh 0) D u.size;rwa [show plus 0 i=i by simp[plus]] at this⟩,?_⟩⟩
      .have:(minus j i).toNat=j.toNat-i.toNat:=by simp only[minus];omega
       rw[this]
      .simp only[minus];omega
      .omega
      .by_cases v:f=i.toNat
       .exact .inl (by simp only[minus];omega)
       .rcases m4 with ⟨q1,q3⟩|⟨b,q1,Y⟩
        .exact .inl ah
        .refine .inr ⟨b,f,q1,?_⟩;rw[aK v,Y];simp only[QP,addr_add,Cx]
     .cases r
   .cases o
  .cases F
 ·
  rename_i m u c aR s q O Q;rw[Q] at hv;obtain⟨hlm,o⟩:=aA F;simp at hlm;obtain⟨W,z,C⟩:=lL hlm.1;split at o
  .rename_i i j G;obtain⟨A,S⟩:=cX o;obtain rfl:=aI S;obtain⟨D,J,E⟩:=kr A;obtain⟨Z,U,V,k3⟩:=(hc.T _ _ O).arr;obtain⟨b,f,hl,p⟩:=bp z C hv.2;obtain p:a.eval x=.pointer (aa ⟨b,er _,af⟩):=by simpa using p
   have y:=rW (P:=P) h G false m m rfl (b0 _) D J E;refine bM h hd (x:=.slice (aa<|if m=i.toNat then⟨b,er (s::q),af⟩ else(⟨b,er (s::q),af⟩:Addr).add (i.toNat*u.size)) (j.toNat-i.toNat) (m-i.toNat)) ?_
    ⟨⟨_,rfl,rfl⟩,W,z,ah,λ_=>⟨aT,b,f,hl,D,by simp only[minus];omega,by simp only[minus];omega,aa (if m=i.toNat then⟨b,er (s::q),af⟩ else(⟨b,er (s::q),af⟩:Addr).add (i.toNat*u.size)),m-i.toNat,?_,?_,?_⟩⟩
   .rw[p];simp only[Instr.sliceAt,Sem.run_bind,run_underlying U,Result.andThen_ok,Instr.sureAddr,Sem.run_pure,y,V.sizeOf w]
   .have:(minus j i).toNat=j.toNat-i.toNat:=by simp only[minus];omega
    rw[this]
   .simp only[minus];omega
   .by_cases v:m=i.toNat
    .exact .inl (by simp only[minus];omega)
    .refine .inr ?_;rw[aK v];simp only[addr_add]
  .cases o
 ·
  rename_i m u c aR O Q;rw[Q] at hv;split at F
  .rename_i W z;obtain⟨t,o⟩:=aA F;simp only[gO,Ez] at t;have C:=gP t.1;split at o
   .rename_i n e l hbv;obtain⟨hq,r⟩:=aA o;simp only[gO] at hq;obtain rfl:=gP hq.1.1;obtain rfl:=Ty.eq_of_beq hq.1.2;have apo:=KF hq.2;split at r
    .rename_i i j G;obtain⟨A,S⟩:=cX r;obtain rfl:=aI S;obtain⟨D,J,E⟩:=kr A;obtain⟨Z,U,V,k3⟩:=(hc.T _ _ O).arr;obtain⟨b,f,hl,p⟩:=bp z C hv.2;obtain p:a.eval x=.pointer _:=by simpa [er] using p
     have y:=rW (P:=P) h G false m m rfl (b0 _) D J E;have hF:x9 (aa<|if m=i.toNat then⟨b,0,af⟩ else(⟨b,0,af⟩:Addr).add (i.toNat*u.size)) (m-i.toNat):=by
      refine .inr ?_;split
      .exact⟨b,0,rfl⟩
      .exact⟨b,0+i.toNat*u.size,by rw[addr_add]⟩
     refine bM h hd (x:=.slice (aa<|if m=i.toNat then⟨b,0,af⟩ else(⟨b,0,af⟩:Addr).add (i.toNat*u.size)) (j.toNat-i.toNat) (m-i.toNat)) ?_
      ⟨⟨_,rfl,rfl⟩,W,z,ah,λ_=>⟨u,m,eF.sV t.2 hbv,D,by simp only[minus];omega,by simp only[minus];omega,aa (if m=i.toNat then⟨b,0,af⟩ else(⟨b,0,af⟩:Addr).add _),m-i.toNat,?_,?_,?_,⟨hF,λ_ G=>by rw[t.2] at G;cases G⟩,?_⟩⟩
     .rw[p];simp only[Instr.sliceAt,Sem.run_bind,run_underlying U,Result.andThen_ok,Instr.sureAddr,Sem.run_pure,y,V.sizeOf w]
     .have:(minus j i).toNat=j.toNat-i.toNat:=by simp only[minus];omega
      rw[this]
     .simp only[minus];omega
     .simp only[maxLen];omega
     .by_cases v:m=i.toNat
      .exact .inl (by simp only[minus];omega)
      .refine .inr ⟨b,f,hl,?_⟩;rw[aK v];simp only[addr_add,Cx]
    .cases r
   .cases o
  .cases F
 .cases F
end
end Go.Ge
namespace Go.Ge
open RowKit
section
variable {P:Program} {B:CG} {N:Nat} {γ:Gh} {σ aV:St} {a:Act} {w:World} {d:Option Nat} {cx:Ctx}
def bL.flat{w w' I I'}:∀{t x cs},t.flat=true->bL w I t x cs->bL w' I' t x cs:=by intro t;induction t with|int k=>intro x cs _ h;exact h|bool=>intro x cs _ h;exact h|str=>intro x cs _ h;exact h|slice e p=>intro x cs f;cases f|arr n e p=>intro x cs f h;exact⟨h.1,h.2.1,λi y q=>p f (h.2.2 i y q)⟩|pair a b g j =>(intro x cs f h;simp only[Ty.flat,gO] at f;obtain⟨s,v,A,l,m⟩:=h;exact⟨s,v,A,g f.1 l,j f.2 m⟩)|unit=>intro x cs _ h;exact h|alt u a r g o =>(intro x cs f h;simp only[Ty.flat,gO] at f;rcases x with y|z;{obtain⟨l,c,m,C⟩:=h;exact⟨l,c,m,g f.1 C⟩};exact o f.2 h)|Cz=>intro x cs _ h;exact h
def CI(w:World)(I:Nat->Nat->Prop)(e:Ty)(l:List e.den)(v:Value):Prop :=(l=[]/\∃f b,v=.slice f 0 b/\b<=maxLen/\x9 f b) \/ ∃g h b,v=.slice (aa ⟨g,h,af⟩) l.length b/\l.length<=b/\b<=maxLen /\∀(i:Nat) (x:e.den),l[i]?=aa x->∃k:List Value,k.length=e.size /\(∀(j:Nat) c,k[j]?=aa c->w.cell? ⟨g,h+i*e.size+j,af⟩=aa c)/\bL w I e x k
def Bi{I e}{l:List e.den}{blk cur tid k}(m:w.heap[blk]?=aa (.cells cur tid k)){n}(o:n*e.size<=cur.size)
  (h:∀i x,l[i]?=aa x->bL w I e x ((cur.toList.drop<|i*e.size).take e.size)) (p:l.length<=n) lo :
  ∀i x,(l.drop lo)[i]?=aa x->∃b,b.length=e.size /\(∀j c,b[j]?=aa c->w.cell? ⟨blk,lo*e.size+i*e.size+j,af⟩=aa c)/\bL w I e x b:=by
 intro i x f;rw[vM] at f;have g:=h _ x f;refine⟨_,g.length,λj c q=>?_,g⟩;rw[cell_of_heap m]
 grind
def eL.row{b bx mem}(h:eL γ mem w b bx){blk cap}(v:γ.loc b=aa (blk,cap)) :
  (∀(e:Ty) (l:List e.den),bx.buf=true->bx.val=.data (.slice e) l->∃c tid f,w.heap[blk]?=aa (.cells c tid f)/\nY c f/\l.length<=cap/\cap<=maxLen/\c.size=cap*e.size/\0<e.size /\∀i x,l[i]?=aa x->bL w γ.I e x ((c.toList.drop<|i*e.size).take e.size)) /\
  (∀n (e:Ty) (l:List e.den),bx.buf=false->bx.val=.data (.arr n e) l->∃c tid f,w.heap[blk]?=aa (.cells c tid f)/\nY c f/\l.length=n/\c.size=n*e.size /\∀i x,l[i]?=aa x->bL w γ.I e x ((c.toList.drop<|i*e.size).take e.size)):=by
 refine⟨λe l o p=>?_,λn e l o p=>?_⟩
 .rw[eL,o] at h;obtain⟨D,E,r,y,s⟩:=h;rw[p] at r;cases r;rcases s with ⟨s,_⟩|⟨g,j,c,tid,f,q,t,u,k,m,z,A,C⟩;{grind}
  .rw[v] at q;obtain⟨rfl,rfl⟩:=eX (aI q);exact⟨c,tid,f,t,u.th,m,z,A,y,C⟩
 .rw[eL,o] at h;obtain⟨g,j,c,tid,f,q,t,u,k,m⟩:=h;rw[p] at m;obtain⟨F,G,H⟩:=m;grind
def GL{u e l m}(h:toL u e l=aa m):∃q:u=e,m=q▸l:=mY h
def oK{e v l}(g:jV e σ v=aa l) :
  v=.data (.slice e) l\/(v=.qw/\l=[])\/(∃b c f,v=.whole b c/\σ.mem b=aa f/\f.aR=c/\f.buf=true/\f.val=.data (.slice e) l) \/ ∃b c o n f,v=.part b c o n/\σ.mem b=aa f/\f.aR=c/\((f.buf=true/\∃j:List e.den,f.val=.data (.slice e) j/\l=sub j o n)\/(f.buf=false/\∃(k:Nat) (j:List e.den),f.val=.data (.arr k e) j/\l=sub j o n)):=by
 unfold jV at g;split at g
 .obtain⟨q,rfl⟩:=GL g;grind
 .exact .inr (.inl ⟨rfl,(aI g).symm⟩)
 .rename_i b c;split at g
  .rename_i f p;cases m:(Nat.beq f.aR c&&f.buf) with
   | false=>rw[m] at g;exact absurd g aT
   | true =>
     rw[m,xZ] at g;simp only[gO] at m;split at g
     .rename_i u j h;obtain⟨q,rfl⟩:=GL g;subst q;exact .inr (.inr<|.inl ⟨b,c,f,rfl,p,gP m.1,m.2,h⟩)
     .grind
  .grind
 .rename_i b c o n;split at g
  .rename_i f p;cases m:Nat.beq f.aR c with
   | false=>rw[m] at g;exact absurd g aT
   | true =>
     rw[m] at g;split at g
     .rename_i u j i h;obtain⟨q,rfl⟩:=GL g;subst q;exact .inr (.inr<|.inr ⟨b,c,o,n,f,rfl,p,gP m,.inl ⟨i,j,h,rfl⟩⟩)
     .rename_i r u j i h;obtain⟨q,rfl⟩:=GL g;subst q;exact .inr (.inr<|.inr ⟨b,c,o,n,f,rfl,p,gP m,.inr ⟨i,r,j,h,rfl⟩⟩)
     .grind
  .grind
 .grind
def LK{α}{l:List α}{b n:Int}(c:0<=b)(e:0<=n)(f:b+n<=l.length):(sub l b n).length=n.toNat:=by simp only[sub,dw,rV];omega
def uG(M:bH B γ σ.mem w){e v val l}(O:cQ γ σ.mem w v .val [val])(hl:jV e σ v=aa l):CI w γ.I e l val:=by
 rcases oK hl with rfl|⟨rfl,rfl⟩|⟨b,R,E,rfl,s,p,f,g⟩|⟨b,R,z,n,E,rfl,s,p,S⟩
 .obtain⟨cs,F,r⟩:=et.1 O;rcases F with ⟨⟨o,F⟩,T⟩|⟨j,U,h,F,T,h3,h4⟩;{exact .inl ⟨T,o,0,by rw[r,F];rfl,pq _,.inl rfl⟩};refine .inr ⟨j,U,h,by rw[r,F];rfl,T,h3,λi x A=>?_⟩;grind
 .obtain rfl:val=_:=by simpa [cQ] using O
  exact .inl ⟨rfl,af,0,rfl,pq _,.inl rfl⟩
 .obtain⟨e',n',V,t,u⟩:=bp s p O.2;rw[eF.ec V g] at t;obtain⟨rfl,rfl⟩:=eX (aI t);rcases u with ⟨u,C⟩|⟨j,h,u,C⟩;{(obtain rfl:val=_:=by simpa using C);have G:=M.boxes b E s;rw[eL,V] at G;obtain⟨e2,l2,W,j2,X⟩:=G;rw[g] at W;cases W;rcases X with ⟨_,j4⟩|⟨_,_,_,_,_,X,_⟩;{exact .inl ⟨j4,af,0,rfl,pq _,.inl rfl⟩};grind};(obtain rfl:val=_:=by simpa using C);obtain⟨H,tid,Y,J,Z,D,q4,q5,q6,K⟩:=((M.boxes b E s).row u).1 _ l V g;refine .inr ⟨j,0,h,rfl,D,q4,λi x A=>?_⟩;have:=Bi J ah K D 0 i x A;grind
 obtain⟨e',k,t,u,C,g5,o,h,g6,g7,Q,gF,q⟩:=bp s p O.2;obtain rfl:val=_:=by simpa using g6
 rcases S with ⟨f,L,g,rfl⟩|⟨f,k0,L,g,rfl⟩;{rw[eF.ec f g] at t;obtain⟨rfl,rfl⟩:=eX (aI t);have hlen:=LK u C g5;rcases q with q|⟨j,c,q,y⟩;{subst q;exact .inl ⟨by simp[sub],o,h,rfl,Q,gF.1⟩};obtain⟨H,tid,Y,J,Z,D,q4,q5,q6,K⟩:=((M.boxes b E s).row q).1 _ L f g;refine .inr ⟨j,z.toNat*e.size,h,by rw[y,hlen],by rw[hlen];exact g7,Q,λi x A=>?_⟩;have m:((List.drop z.toNat L).take n.toNat)[i]?=aa x:=A;rw[kn] at m;split at m;{exact Bi J ah K D z.toNat i x m};grind};rw[eF.sV f g] at t;obtain⟨rfl,rfl⟩:=eX (aI t);rcases q with q|⟨j,c,q,y⟩;{subst q;exact .inl ⟨by simp[sub],o,h,rfl,Q,gF.1⟩};obtain⟨H,tid,Y,J,Z,D,q5,K⟩:=((M.boxes b E s).row q).2 _ _ L f g;have hlen:=LK u C (by rw[D];exact g5);refine .inr ⟨j,z.toNat*e.size,h,by rw[y,hlen],by rw[hlen];exact g7,Q,λi x A=>?_⟩;have m:((List.drop z.toNat L).take n.toNat)[i]?=aa x:=A;rw[kn] at m;split at m;{exact Bi J (n:=k0) ah K ah z.toNat i x m};grind
def Fz{I e blk}:∀{l:List e.den} {off},(∀i x,l[i]?=aa x->∃f,f.length=e.size /\
   (∀j c,f[j]?=aa c->w.cell? ⟨blk,off+i*e.size+j,af⟩=aa c)/\bL w I e x f) ->
  ∃b:List Value,b.length=l.length*e.size/\(∀j c,b[j]?=aa c->w.cell? ⟨blk,off+j,af⟩=aa c)/\(∀c∈b,c.oneCell'=true) /\∀i x,l[i]?=aa x->bL w I e x ((b.drop<|i*e.size).take e.size):=by
 intro l;induction l with|nil=>intro off h;exact⟨[],aT,aT,aT,aT⟩|cons m r n =>(intro off h;obtain⟨f,s,t,o⟩:=h 0 m rfl;obtain⟨b,u,v,y,z⟩:=n (off:=off+e.size) λi x k=>by obtain⟨p,A,C,D⟩:=h (i+1) x (by simpa using k);grind);refine⟨f++b,by rw[iU,iV,KJ];omega,λj c q=>?_,λc g=>?_,λi x k=>?_⟩;{rw[Sw] at q;grind};{rcases Pv.1 g with g|g;{exact o.one c g};grind};cases i with|zero =>grind|succ i =>rw[KJ,U4,<-A7];grind
def GM(h:dG B N γ σ a w){b g e n}(p:σ.mem b=aa g)(m:g.row=aa (e,n))(f:freeze σ b=aa aV) :
  ∃bF,dG B N bF aV a w/\Ext B γ σ.mem w bF aV.mem w/\bF.loc=γ.loc/\∀i k j,γ.loc b=aa (i,k)->j<n*e.size->bF.I i j:=by
 obtain⟨m1,q⟩:=h.ok.freeze p m;have r:aV={ bj:=σ.bj,mem:=dy σ.mem b { g with ro:=true } }:=by unfold freeze at f;rw[p] at f;cases l:g.ro with|true =>(simp only[l,xZ,Mg] at f;subst f;have:dy σ.mem b { g with ro:=true }=σ.mem:=by funext c;by_cases e:c=b;{subst e;rw[bE,p];cases g;subst l;rfl};rw[aZ _ e]);rw[this]|false =>simp only[l] at f;cases o:g.lk with|true=>simp[o] at f|false=>simp only[o,Cp,Mg] at f;subst f;rfl
 subst r;exact⟨_,h.go q m1,q,rfl,λi k j s t=>.inr ⟨⟨k,s⟩,t⟩⟩
def CI.data{g:Gh}{e l val}(h:CI w γ.I e l val)(s:∀b o,γ.I b o->g.I b o)
  (t:∀f off cap,val=.slice (aa ⟨f,off,af⟩) l.length cap->∀j,j<l.length*e.size->g.I f (off+j)):bL w g.I (.slice e) l [val]:=by
 rcases h with ⟨rfl,k,cap,m,p,q⟩|⟨f,off,cap,m,p,q,u⟩
 .rcases q with rfl|⟨f,off,rfl⟩;{exact .inl ⟨⟨k,by rw[m]⟩,rfl⟩};exact .inr ⟨f,off,cap,by rw[m];rfl,pq _,p,λi x n=>by cases n⟩
 .refine .inr ⟨f,off,cap,by rw[m],p,q,λi x n=>?_⟩;obtain⟨es,v,y,z⟩:=u i x n;refine⟨es,v,λj c r=>⟨y j c r,?_⟩,bL.mono s (λ_ _ _=>rfl) z⟩;have A:j<e.size:=by have:=(iQ.1 r).1;omega
  have:_*e.size<=l.length*e.size:=ic _ ((iQ.1 n).1);rw[KJ] at this;rw[Fo];exact t f off cap m _ ah
def GN(h:dG B N γ σ a w){e v val l}(t:cQ γ σ.mem w v .val [val])(H:jV e σ v=aa l)(z:jI σ v=aa aV) :
  ∃bF,dG B N bF aV a w/\Ext B γ σ.mem w bF aV.mem w/\bL w bF.I (.slice e) l [val]:=by
 have o:=uG h.ok t H;rcases oK H with rfl|⟨rfl,rfl⟩|⟨b,A,J,rfl,q,m,f,i⟩|⟨b,A,V,n,J,rfl,q,m,C⟩
 .obtain rfl:=aI z;obtain⟨W,K,g⟩:=et.1 t;have:W=[val]:=by obtain⟨c,rfl⟩:=aaj.1 K.length;rw[g];rfl
  exact⟨γ,h,Ext.refl _ _ _ _,by rw[<-this];exact K⟩
 .obtain rfl:=aI z;obtain rfl:val=_:=by simpa [cQ] using t
  exact⟨γ,h,Ext.refl _ _ _ _,.inl ⟨⟨af,rfl⟩,rfl⟩⟩
 .obtain⟨bF,D,u,X,Y⟩:=GM h q (eF.ec f i) z;refine⟨bF,D,u,o.data u.I λx E F g j Z=>?_⟩;obtain⟨L,n',g1,r,G⟩:=bp q m t.2;grind
 .obtain⟨L,k,r,G,M,O,Q,F,g6,g7,g8,gF,p⟩:=bp q m t.2;obtain rfl:val=_:=by simpa using g6
  have hlk:e=L/\l.length=n.toNat:=by rcases C with ⟨f,R,i,rfl⟩|⟨f,k0,R,i,rfl⟩;{rw[eF.ec f i] at r;obtain⟨rfl,rfl⟩:=eX (aI r);exact⟨rfl,LK G M O⟩};rw[eF.sV f i] at r;obtain⟨rfl,rfl⟩:=eX (aI r);rcases p with p|⟨x,c,p,y⟩;{subst p;exact⟨rfl,by simp[sub]⟩};obtain⟨cur,tid,fr,s,q2,S,q5,q7⟩:=((h.ok.boxes b J q).row p).2 _ _ R f i;exact⟨rfl,LK G M (by rw[S];exact O)⟩
  obtain⟨bF,D,u,X,Y⟩:=GM h q r z;refine⟨bF,D,u,o.data u.I λx E T g j Z=>?_⟩;rcases p with p|⟨U,c,p,y⟩;{grind};injection g with s q2 S;rw[y] at s;injection s with s;injection s with s q4;have:(V.toNat+n.toNat)*e.size<=k*e.size:=ic _ ah;grind
def EU{e v l b}(h:jV e σ v=aa l)(k:freeze σ b=aa aV):jV e aV v=aa l:=by
 have z:∀c j,σ.mem c=aa j->∃r,aV.mem c=aa { j with ro:=r }:=by intro c j q;unfold freeze at k;split at k;{rename_i p t;cases m:p.ro with|true=>simp only[m,xZ,Mg] at k;subst k;exact⟨j.ro,q⟩|false =>cases o:p.lk with|true=>simp[m,o] at k|false =>simp only[m,o,Cp,Mg] at k;subst k;by_cases e:c=b;{subst e;rw[t] at q;obtain rfl:=aI q;exact⟨true,by simp[St.cD,o]⟩};exact⟨j.ro,by simp[St.cD,ja e,q]⟩};cases k
 rcases oK h with rfl|⟨rfl,rfl⟩|⟨c,u,j,rfl,x,g,f,i⟩|⟨c,u,C,n,j,rfl,x,g,y⟩
 .exact h
 .rfl
 {obtain⟨r,s⟩:=z c j x;simp only[jV,s,g,f,i,aeD];simp[toL,Ty.beq_refl]};obtain⟨r,s⟩:=z c j x;rcases y with ⟨f,A,i,rfl⟩|⟨f,D,A,i,rfl⟩;{simp only[jV,s,g,f,i,aeD,xZ];simp[toL,Ty.beq_refl]};simp only[jV,s,g,f,i];simp[toL,Ty.beq_refl]
def GO{s r p q x}(h:ui σ (.pair s r) (.mix p q)=aa x):∃(y:s.den) (z:r.den),ui σ s p=aa y/\ui σ r q=aa z/\x=(y,z):=by
 replace h:(match ui σ s p,ui σ r q with|some x,aa y=>aa _|_,_=>af)=aa x:=h
 grind
def QX{s r p q y z}(b:ui σ s p=aa y)(c:ui σ r q=aa z):ui σ (.pair s r) (.mix p q)=aa ((y,z):(Ty.pair s r).den):=by
 show(match ui σ s p,ui σ r q with|some x,aa y=>aa _|_,_=>af)=aa _
 grind
def zd{p q}(h:jI σ (.mix p q)=aa aV):∃bO,jI σ p=aa bO/\jI bO q=aa aV:=by unfold jI at h;grind
def sh{t}:∀{x},ui σ t .vO=aa x->(∀w I,bL w I t x [.nilIface])/\(∀τ,ui τ t .vO=aa x)/\df t [.nilIface]=.nilIface/\t.isAgg=false:=by induction t with|alt u a r g c =>(intro x h;have h:(match ui σ r .vO with|some x=>aa (az x)|none=>af)=aa x:=h;cases f:ui σ r .vO with|none=>rw[f] at h;cases h|some y =>rw[f] at h;obtain rfl:=aI h;obtain⟨i,l,j,k⟩:=c f;refine⟨λw I=>i w I,λτ=>?_,j,k⟩;show(match ui τ r .vO with|some x=>aa _|none=>af)=_;grind)|Cz=>intro x h;exact⟨λw I=>rfl,λτ=>rfl,rfl,rfl⟩|slice e=>intro x h;cases h|pair a b=>intro x h;cases h|_=>intro x h;cases h
def Vq:∀{v t x σ aV u},ui σ t v=aa x->jI σ u=aa aV->ui aV t v=aa x:=by
 have one:∀{u e v l σ aV},jV e σ v=aa l->jI σ u=aa aV->jV e aV v=aa l:=by intro u;induction u with|mix p q f g =>intro e v l σ aV h c;simp only[jI] at c;grind|whole b aR=>intro e v l σ aV h c;exact EU h c|part b aR lo n=>intro e v l σ aV h c;exact EU h c|_=>intro e v l σ aV h c;obtain rfl:=aI c;exact h
 intro v;induction v with|data u y =>(intro t x σ aV u h c;cases t with|slice e=>exact one h c|_=>exact h)|mix p q f g =>(intro t x σ aV u h c;cases t with|pair s r =>(obtain⟨y,z,i,j,rfl⟩:=GO h;exact QX (f i c) (g j c))|slice e=>exact one h c|_=>cases h)|vO=>intro t x σ aV u h c;exact(sh h).2.1 _|_ =>intro t x σ aV u h c;cases t with|slice e=>exact one h c|_=>cases h
def JY{γ mem v cs}(h:cQ γ mem w v .cells cs)(b:dX v=1):∃c,cs=[c]:=by have:=h.length;rw[b] at this;exact aaj.1 this
def Yq:∀{v t x cs σ aV γ a},dG B N γ σ a w->cQ γ σ.mem w v .cells cs->ui σ t v=aa x->jI σ v=aa aV ->
  ∃bF,dG B N bF aV a w/\Ext B γ σ.mem w bF aV.mem w/\bL w bF.I t x cs:=by
 have A:∀{v e l cs σ aV γ a},dX v=1->(∀c,cQ γ σ.mem w v .cells [c]->cQ γ σ.mem w v .val [c])->dG B N γ σ a w->cQ γ σ.mem w v .cells cs->jV e σ v=aa l->jI σ v=aa aV ->
   ∃bF,dG B N bF aV a w/\Ext B γ σ.mem w bF aV.mem w/\bL w bF.I (.slice e) l cs:=by
  intro v e l cs σ aV γ a C m h i f j;obtain⟨c,rfl⟩:=JY i C;exact GN h (m c i) f j
 intro v;induction v with|data u y =>((intro t x cs σ aV γ a h i f j;obtain rfl:=aI j;have key:(∃q:u=t,x=q▸y):=by cases t with|slice e =>(rcases oK f with g|⟨g,_⟩|⟨_,_,_,g,_⟩|⟨_,_,_,_,_,g,_⟩;{injection g with L M;subst L;exact⟨rfl,(eq_of_heq M).symm⟩};{cases g};{cases g};cases g)|_=>exact Ty.my f);obtain⟨q,D⟩:=key;subst q;subst D;exact⟨γ,h,Ext.refl _ _ _ _,i⟩)|mix p q E F =>(intro t x cs σ aV γ a h i f j;cases t with|pair s r =>(obtain⟨O,Q,rfl,C,R⟩:=i;obtain⟨y,z,S,D,rfl⟩:=GO f;obtain⟨bO,o,G⟩:=zd j;obtain⟨T,U,K,V⟩:=E h C S o;obtain⟨H,W,J,X⟩:=F U (R.ext K) (Vq D o) G;exact⟨H,W,K.trans J,O,Q,rfl,bL.mono J.I J.cells V,X⟩)|slice e=>exact absurd f cp|_=>cases f)|qw =>(intro t x cs σ aV γ a h i f j;cases t with|slice e=>exact A (v:=.qw) rfl (λc k=>k) h i f j|_=>cases f)|whole b aR =>(intro t x cs σ aV γ a h i f j;cases t with|slice e=>exact A (v:=.whole b aR) rfl (λc k=>k) h i f j|_=>cases f)|part b aR lo n =>(intro t x cs σ aV γ a h i f j;cases t with|slice e=>exact A (v:=.part b aR lo n) rfl (λc k=>k) h i f j|_=>cases f)|vO =>(intro t x cs σ aV γ a h i f j;obtain rfl:=aI j;obtain rfl:cs=[.nilIface]:=i;exact⟨γ,h,Ext.refl ..,(sh f).1 _ _⟩)|_ =>intro t x cs σ aV γ a h i f j;cases t with|slice e=>exact absurd f cp|_=>cases f
def oL{t x v val}(h:dG B N γ σ a w)(f:cQ γ σ.mem w v .val [val])(g:CA σ t v=aa (x,aV)) :
  ∃bF,dG B N bF aV a w/\Ext B γ σ.mem w bF aV.mem w/\cQ bF aV.mem w (.data t x) .val [val]:=by
 unfold CA at g;split at g
 .rename_i u y;split at g;{rename_i H o;obtain⟨rfl,rfl⟩:=eX (aI g);obtain⟨q,z⟩:=Ty.my o;subst q;subst z;exact⟨γ,h,Ext.refl _ _ _ _,f⟩};cases g
 .split at g
  .rename_i y bO c l;obtain⟨rfl,rfl⟩:=eX (aI g);cases v with
   | data u A=>rename_i m;exact absurd rfl (m u A)
   | mix p q =>(obtain⟨C,D,E,F,G⟩:=f;obtain rfl:val=_:=by simpa using E);obtain⟨bF,i,j,k⟩:=Yq h (show cQ γ σ.mem w (.mix p q) .cells _ from⟨C,D,rfl,F,G⟩) c l;refine⟨bF,i,j,_,k,?_⟩;cases t with|pair s r=>rfl|slice e=>exact absurd c cp|_=>cases c
   | qw =>
     cases t with
     | slice e=>obtain⟨bF,i,j,k⟩:=GN h f c l;exact⟨bF,i,j,_,k,rfl⟩
     | _=>cases c
   | whole b aR =>
     cases t with
     | slice e=>obtain⟨bF,i,j,k⟩:=GN h f c l;exact⟨bF,i,j,_,k,rfl⟩
     | _=>cases c
   | part b aR lo n =>
     cases t with
     | slice e=>obtain⟨bF,i,j,k⟩:=GN h f c l;exact⟨bF,i,j,_,k,rfl⟩
     | _=>cases c
   | vO =>
     obtain rfl:=aI l;obtain f:[val]=[Value.nilIface]:=f;obtain rfl:val=.nilIface:=by simpa using f
     exact⟨γ,h,Ext.refl ..,[.nilIface],(sh c).1 _ _,by rw[(sh c).2.2.1]⟩
   | _ =>
     cases t with
     | slice e=>exact absurd c cp
     | _=>cases c
  .cases g
end
end Go.Ge
namespace Go.Ge
open RowKit
section
variable {P:Program} {B:CG} {N:Nat} {γ:Gh} {σ aV:St} {a:Act} {w:World} {d:Option Nat} {cx:Ctx}
def Yr{b:eF}{k c v f}(l:b.buf=false)(m:b.val=v)(h:(Fq v k f).run=aa c):({ b with val:=c }:eF).row=b.row:=by obtain⟨i,tid,o,s,u,r⟩:=b;subst l;subst m;cases i with|data t x =>(obtain⟨y,j,g⟩:=bind_some h;obtain rfl:=aI g;cases t with|arr n e=>cases k<;>exact absurd j cp|_=>rfl)|mix p q =>(cases k with|zero =>(obtain⟨y,j,g⟩:=bind_some h;obtain rfl:=aI g;rfl)|succ k =>obtain⟨y,j,g⟩:=bind_some h;obtain rfl:=aI g;rfl)|_=>exact absurd h cp
def ahK{bx:eF}{e:Ty}{l:List e.den}{i y}(b:bx.buf=true)(c:bx.val=.data (.slice e) l):({ bx with val:=.data (.slice e) (kO l i y) }:eF).row=bx.row:=by rw[eF.ec b c,eF.ec (bx:={ bx with val:=.data (.slice e) (kO l i y) }) b rfl];simp[kO]
def JZ{f:eF}{p v c}(h:(SD f.buf p f.val v).run=aa c)(o:p=[]->f.buf=false->({ f with val:=v }:eF).row=f.row) :
  ({ f with val:=c }:eF).row=f.row:=by
 unfold SD at h;split at h
 .rename_i b;cases p with
  | nil=>obtain rfl:=aI h;exact o rfl b
  | cons s p =>
    cases s with
    | gR k off=>exact Yr b rfl h
    | idx i size =>
      simp only[A8] at h;split at h
      .rename_i n e l j;obtain⟨x,q,m⟩:=ck h;obtain⟨z,r,g⟩:=bind_some m;split at g
       .obtain rfl:=aI g;rw[eF.sV b j];exact eF.sV b rfl
       .exact absurd g cp
      .exact absurd h cp
 .rename_i b;split at h
  .rename_i i size p e l j;obtain⟨x,q,m⟩:=ck h;obtain⟨z,r,g⟩:=bind_some m;split at g
   .obtain rfl:=aI g;exact ahK b j
   .exact absurd g cp
  .exact absurd h cp
def EV(h:dG B N γ σ a w){b aR p fit u es}(G:(storeAt b aR p fit u σ).run=aa aV)(Y:cQ γ σ.mem w u .cells es)
  (J:∀t,fit t=true->es.length=dX t) (ae0:∀A:eF,fit A.val=true->A.buf=false->({ A with val:=u }:eF).row=A.row) {blk cap} (H:γ.loc b=aa (blk,cap)) : ∃w',(storeCells ⟨blk,er p,af⟩ es).run P w=.ok () w'/\dG B N γ aV a w'/\Ext B γ σ.mem w γ aV.mem w':=by
 unfold storeAt at G;split at G
 case h_2=>exact absurd G cp
 rename_i A hb;obtain⟨hc,hr2⟩:=aA G;simp at hc;obtain⟨⟨alA,hlk⟩,K⟩:=hc;obtain⟨t,hn,hr3⟩:=bind_some hr2;obtain⟨L,hr4⟩:=aA hr3;obtain⟨c,hs,hr5⟩:=bind_some hr4;obtain rfl:=aI hr5;have C:=J t L;have M:=JZ hs λhp g=>by subst hp;rw[g] at hn;obtain rfl:=aI hn;grind
 have m:=h.ok.boxes b A hb;unfold eL at m;have hbb:A.buf=false\/A.buf=true:=by cases A.buf<;>simp
 rcases hbb with g|g
 .rw[g] at m hn hs;obtain⟨O,Q,f,tid,R,Z,h2,E,n,S⟩:=m;rw[H] at Z;obtain⟨rfl,rfl⟩:=eX (aI Z);obtain⟨k1,k2⟩:=zc S hn;have o:er p+es.length<=f.toList.length:=by rw[C];exact k1
  have T:(ba f.toList (er p) es).toArray.size=f.size:=by have:=bQ o;simpa using this
  obtain⟨m1,U⟩:=h.ok.write hb K H h2 (cur':=(ba f.toList _ es).toArray) T M (λw' mem' r hg=>by simp only[g];exact⟨blk,cap,_,tid,R,H,hg,E.same T,n,by simpa using Bf (S.ext r) hn hs (Y.ext r) C⟩)
  exact⟨_,(dB (P:=P) blk _ tid R es 0 f w h2 E (by simpa using o) λv hv=>Y.one v hv),h.go U m1,U⟩
 .rw[g] at m hn hs;obtain⟨e,l,Z,h2,E⟩:=m;rw[Z] at hn hs;rcases E with ⟨E,_⟩|⟨O,Q,f,tid,R,E,S,h5,n,h6,h7,h8,h9⟩;{grind};rw[H] at E;obtain⟨rfl,rfl⟩:=eX (aI E);cases p with|nil=>cases hn|cons s p =>cases s with|gR k off=>cases hn|idx i size =>obtain⟨hsb,hn2⟩:=aA hn;obtain⟨x,r,V⟩:=ck hn2;obtain⟨x',hx',hs2⟩:=ck hs;obtain rfl:x=x':=aI (r.symm.trans hx');obtain⟨z,hq,D⟩:=bind_some hs2;cases hz:toS e z with|none=>rw[hz] at D;cases D|some y =>(rw[hz] at D;obtain rfl:=aI D;obtain⟨h0,W⟩:=vT r;have G:=h9 _ x W;have hi:=(iQ.1 W).1;have hm2:(i.toNat+1)*e.size<=cap*e.size:=ic _ ah;rw[KJ] at hm2;have X:cQ γ σ.mem w (.data e x) .cells _:=G;obtain⟨k1,k2⟩:=zc X V;rw[G.length] at k1;have hcs:f.toList.length=cap*e.size:=by simpa using h8);(have F:er (.idx i size::p)=i.toNat*e.size+er p:=by simp only[er,(gP hsb)]);(have o:er (.idx i size::p)+es.length<=f.toList.length:=by rw[F];omega);(have q:(ba f.toList (er (.idx i size::p)) es).toArray.size=f.size:=by have:=bQ o;simpa using this);(obtain⟨m1,U⟩:=h.ok.write hb K H S (cur':=(ba f.toList _ es).toArray) q M (λw' mem' r hg=>by simp only[g];refine⟨e,_,rfl,h2,.inr ⟨blk,cap,_,tid,R,H,hg,h5.same q,n,fB (EO aet) h6,h7,by rw[q];exact h8,?_⟩⟩;have hzz:=LJ hz (Bf (X.ext r) V hq (Y.ext r) C);have:=MB rfl (by rw[hcs];exact ic _ h6) (λj x hj=>bL.mono r.I r.cells (h9 j x hj)) hi hzz;rw[(ve f.toList _ _ e.size es (by rw[C];exact k1) ah),<-F] at this;exact this));exact⟨_,(dB blk _ tid R es 0 f w S h5.th (by simpa using o) λv hv=>Y.one v hv),h.go U m1,U⟩
def QY{mem}:∀{t x cs},bL w γ.I t x cs->cQ γ mem w (aay t x) .cells cs:=by intro t;induction t with|pair a b f c=>(intro x cs h;obtain⟨g,i,e,j,k⟩:=h;exact⟨g,i,e,j,c k⟩)|_=>intro x cs h;exact h
def QZ{mem v cs}(h:cQ γ mem w v .cells cs):cQ γ mem w (aeJ v) .cells cs:=by cases v with|data t x=>exact QY h|_=>exact h
def Vr{bx:eF}(e:bx.buf=false)(c:aeL bx.val=true):bx.row=none:=by unfold eF.row;rw[e];obtain⟨b,tid,f,h,i,g⟩:=bx;cases b with|data t x=>(cases t<;>first|rfl|cases c)|mix p q=>rfl|_=>cases c
def Pz(h:dG B N γ σ a w){b aR p n u es}(q:(u9 b aR p n u σ).run=aa aV)(E:cQ γ σ.mem w u .cells es)
  (i:es.length=n) {blk cap} (r:γ.loc b=aa (blk,cap)) : ∃w',(storeCells ⟨blk,er p,af⟩ es).run P w=.ok () w'/\dG B N γ aV a w'/\Ext B γ σ.mem w γ aV.mem w':=by
 unfold u9 at q;split at q
 case h_2=>exact absurd q cp
 rename_i bx F;obtain⟨G,s⟩:=aA q;simp at G;obtain⟨⟨⟨⟨H,T⟩,t⟩,e⟩,x⟩:=G;obtain⟨U,hn,y⟩:=bind_some s;obtain⟨j,z⟩:=aA y;obtain⟨c,hs,A⟩:=bind_some z;obtain⟨C,D⟩:=aA A;obtain rfl:=aI D;have k:=i.trans (gP j).symm;have g:=h.ok.boxes b bx F;unfold eL at g;rw[e] at g;obtain⟨I,J,f,tid,K,L,M,O,l,Q⟩:=g;rw[r] at L;obtain⟨rfl,rfl⟩:=eX (aI L);obtain⟨V,Y⟩:=zc (QZ Q) hn;have m:er p+es.length<=f.toList.length:=by rw[k];exact V
 have o:(ba f.toList (er p) es).toArray.size=f.size:=by have:=bQ m;simpa using this
 obtain⟨m1,R⟩:=h.ok.write F t r M (cur':=(ba f.toList _ es).toArray) o ((Vr (bx:={ bx with val:=c }) e C).trans (Vr e x).symm) (λw' mem' S W=>by simp only[e];exact⟨blk,cap,_,tid,K,r,W,O.same o,l,by simpa using Bf (QZ<|Q.ext S) hn hs (E.ext S) k⟩)
 exact⟨_,(dB blk _ tid K es 0 f w M O (by simpa using m) λv X=>E.one v X),h.go R m1,R⟩
def CJ{ty blk off n v w'}(b:(Go.sizeOf ty).run P w=.ok n w)(e:v.cells.toList.length=n)(c:(storeCells ⟨blk,off,af⟩ v.cells.toList).run P w=.ok () w') :
  (Instr.storeAt ty (.pointer<|some ⟨blk,off,af⟩) v).run P w=.ok () w':=by
 simp only[Instr.storeAt,Instr.sureAddr,storeVar,Sem.run_bind,Sem.run_pure,Result.andThen_ok,b]
 grind
def KQ(E:ga P cx){bf ty x y}(h:dG B N γ σ a w)(F:(nH cx bf ty (dd σ x) (dd σ y) σ).run=aa aV) :
  ∃w' bF,(Instr.storeAt ty (a.eval x)<|a.eval y).run P w=.ok () w'/\dG B N bF aV a w'/\Ext B γ σ.mem w bF aV.mem w':=by
 have hv:=h.dd x;have O:=h.dd y;unfold nH at F;split at F
 case h_2=>exact absurd F cp
 rename_i b aR p hx;rw[hx] at hv;split at F
 case h_2=>exact absurd F cp
 rename_i r hb;obtain⟨G,Q⟩:=aA F;obtain⟨A,hn,C⟩:=bind_some Q;obtain⟨R,S,hl,m⟩:=bp hb (gP G) hv.2;obtain m:a.eval x=_:=by simpa using m
 rw[m];split at C
 .rename_i u z;obtain⟨s,f⟩:=aA C;have s:=j7 s;have hD:=E.T _ _ s;cases U:dm bf 8000000&&aeK u _ with
  | true =>
    rw[U] at f;have j:=(aei.1 U).2;have o:cQ γ σ.mem w (dd σ y) .cells (a.eval y).cells.toList:=by
     refine O.kp (λu' e=>?_) (λe=>?_)
     .rw[e] at j;cases j
     .rw[e] at j;cases j
    have D:dX (dd σ y)=u.size:=by
     unfold aeK at j;split at j
     .rename_i e;rw[e];exact QW j
     .rename_i e;rw[e];exact MH j
     .grind
    have c:(a.eval y).cells.toList.length=u.size:=by rw[o.length,D]
    obtain⟨w',L,H,I⟩:=Pz h f o c hl;exact⟨w',γ,CJ (hD.sizeOf w) c L,H,I⟩
  | false =>
  rw[U] at f;split at f
  .rename_i y0 bO hg;obtain⟨J,s1,s2,s3⟩:=oL h O hg;obtain⟨cs,M,c2⟩:=s3;obtain V:a.eval y=_:=by simpa using c2
   have W:(a.eval y).cells.toList=cs:=by rw[V];exact vd M
   obtain⟨X,g1,g2,g3⟩:=s2.boxes b r hb;have Y:J.loc b=aa (R,S):=by
    have hv':X.aR=r.aR:=by
     unfold storeAt at f;split at f
     .rename_i bx2 hb2;obtain⟨E,_⟩:=aA f;simp_all
     .grind
    grind
   obtain⟨w',L,H,I⟩:=EV (P:=P) s1 f M (λA g=>by
    unfold ajN at g;split at g
    .rename_i t q;obtain rfl:=Ty.eq_of_beq g;exact M.length
    .cases g) (λr g i=>by
    unfold ajN at g;split at g
    .rename_i t q K;obtain rfl:=Ty.eq_of_beq g;cases t with
     | arr n e=>rw[eF.sV i K];exact eF.sV i rfl
     | _=>unfold eF.row;rw[i,K]
    .cases g) Y
   refine⟨w',J,CJ (hD.sizeOf w) ?_ ?_,H,s2.trans I⟩
   .rw[W];exact M.length
   .grind
  .exact absurd f cp
 .obtain⟨s,f⟩:=aA C;simp at s;obtain⟨Z,l⟩:=s;have key:∀{v},A9 cx ty v=true->isRef v=true->dX v=1/\(Go.sizeOf ty).run P w=.ok 1 w:=by
   intro v k h2;unfold A9 at k;split at k
   .cases h2
   .split at k
    .rename_i e s;exact⟨rfl,(E.T _ _ s).sizeOf w⟩
    .cases k
   .exact⟨rfl,(E.vP _ k).2.1 w⟩
   .exact⟨rfl,(E.vP _ k).2.1 w⟩
   .exact⟨rfl,(E.vP _ k).2.1 w⟩
   .cases k
  obtain⟨k,D⟩:=key Z l;have o:cQ γ σ.mem w (dd σ y) .cells (a.eval y).cells.toList:=by
   refine O.kp (λu e=>?_) (λe=>?_)
   .rw[e] at l;cases l
   .rw[e] at l;cases l
  have c:(a.eval y).cells.toList.length=1:=by rw[o.length,k]
  obtain⟨w',L,H,I⟩:=EV h f o (λA g=>by
   simp at g;rcases g with g|g
   .rw[c,(key g.1 g.2).1]
   .rw[c];cases A<;>first|rfl|cases g) (λr g i=>by
   simp at g;have e1:∀{v} {r:eF},(isRef v=true\/aaA v=true)->r.buf=false->r.val=v->r.row=none:=by
    intro v r k h2 h3;unfold eF.row;rw[h2,h3];cases v<;>first|rfl|(rcases k with k|k<;>cases k)
   rw[e1 (g.elim (λq=>.inl q.2) .inr) i rfl];exact e1 (.inl l) i rfl) hl
  exact⟨w',γ,CJ D c L,H,I⟩
def uH t v:(newVar t v).run P w=.ok ⟨w.heap.size,0,af⟩ (w.alloc<|.cells v.cells t):=by simp[newVar,newRow]
def DP{mem w' b c cap}:cQ (bR γ b<|some (w.heap.size,cap)) (dy mem b c) w' (.ptr b c.aR []) .val [.pointer<|some ⟨w.heap.size,0,af⟩] :=⟨⟨_,rfl,rfl⟩,gW (bE _ _) rfl ⟨w.heap.size,cap,by simp[bR],rfl⟩⟩
def Vs(j:ga P cx){b:TypeId}{nb k t}(h:dG B N γ σ a w)(l:k<N)(m:find cx.T b=aa t)
  (n:(σ.bB (nb+k) (.data t t.zero) 0 false λc σ=>.ret (σ.put k<|.ptr (nb+k) c [])).run=aa aV) : py P B N γ σ a w (aa k) (Instr.alloc b true<|.tuple #[]) aV:=by
 obtain⟨c,e,f⟩:=ed n;obtain rfl:=aI f;obtain⟨z,o,g⟩:=(j.T _ _ m).zero w;obtain⟨m1,i⟩:=h.ok.newVar (v:=.data t t.zero) e b (.inl rfl) (by rw[g];exact nM w γ.I t);refine⟨.pointer _,_,_,?_,h.step i m1 l DP,i⟩;simp only[Instr.alloc,Sem.run_bind,o,Result.andThen_ok,uH,Sem.run_pure]
def KR(j:ga P cx){b:TypeId}{nb k}(h:dG B N γ σ a w)(l:k<N)(m:dm cx.vP b=true)
  (n:(σ.bB (nb+k) .undef 0 false λe σ=>.ret (σ.put k<|.ptr (nb+k) e [])).run=aa aV) : py P B N γ σ a w (aa k) (Instr.alloc b true<|.tuple #[]) aV:=by
 obtain⟨e,f,g⟩:=ed n;obtain rfl:=aI g;obtain⟨z,o,c⟩:=(j.vP _ m).2.2;obtain⟨m1,i⟩:=h.ok.newVar (v:=.undef) f (cs:=z.cells) b (.inl rfl) ⟨z,by cases z<;>first|rfl|(simp[Value.oneCell'] at c),c⟩;refine⟨.pointer _,_,_,?_,h.step i m1 l DP,i⟩;simp only[Instr.alloc,Sem.run_bind,o,Result.andThen_ok,uH,Sem.run_pure]
def Vt{b aR}:∀{C j σ γ r},bH B γ σ.mem w->(mkObj b aR C j σ).run=aa r ->
  ∃c,bH B c r.2.mem w/\Ext B γ σ.mem w c r.2.mem w/\r.2.bj=σ.bj /\∀bF mem' w',Ext B c r.2.mem w bF mem' w'->(∃bx s u,mem' b=aa bx/\aR<=bx.aR/\bF.loc b=aa (s,u))->cQ bF mem' w' r.1 .cells (MA C):=by
 intro C;induction C with|nil=>(intro j σ γ r h x;obtain rfl:=aI x;exact⟨γ,h,Ext.refl _ _ _ _,rfl,λ_ _ _ _ _=>rfl⟩)|cons f r z =>intro j σ γ q h x;cases f with|dat t =>(obtain⟨y,l,m⟩:=bind_some x;obtain rfl:=aI m;obtain⟨c,n,g,o,p⟩:=z h l;exact⟨c,n,g,o,λbF mem' w' i k=>⟨_,_,rfl,nM _ _ t,p bF mem' w' i k⟩⟩)|one =>(obtain⟨y,l,m⟩:=bind_some x;obtain rfl:=aI m;obtain⟨c,n,g,o,p⟩:=z h l;exact⟨c,n,g,o,λbF mem' w' i k=>⟨[.pointer af],_,rfl,rfl,p bF mem' w' i k⟩⟩)|fnc =>(obtain⟨y,l,m⟩:=bind_some x;obtain rfl:=aI m;obtain⟨c,n,g,o,p⟩:=z h l;exact⟨c,n,g,o,λbF mem' w' i k=>⟨[.nilFunc],_,rfl,⟨_,rfl,rfl⟩,p bF mem' w' i k⟩⟩)|self =>(obtain⟨y,l,m⟩:=bind_some x;obtain rfl:=aI m;obtain⟨c,n,g,o,p⟩:=z h l;refine⟨c,n,g,o,λbF mem' w' i k=>⟨[.pointer af],_,rfl,?_,p bF mem' w' i k⟩⟩;obtain⟨bx,s,u,G,H,I⟩:=k;exact⟨⟨_,rfl,rfl⟩,bx,G,H,λ_=>⟨s,u,I,.inl rfl⟩⟩)|buf e J =>(obtain⟨K,D⟩:=aA x;have E:0<e.size:=by simpa using K);obtain⟨v,A,F⟩:=ed D;obtain⟨y,l,m⟩:=bind_some F;obtain rfl:=aI m;obtain⟨m1,L⟩:=h.MD A E;obtain⟨c,n,g,o,p⟩:=z m1 l;refine⟨c,n,L.trans g,o,λbF mem' w' i k=>⟨[.slice af 0 0],_,rfl,?_,p bF mem' w' i k⟩⟩;refine cQ.ext (g.trans i) ?_;exact⟨⟨_,rfl,rfl⟩,gW (bE _ _) rfl ⟨e,0,rfl,rfl,.inl ⟨by simp[bR],rfl⟩⟩⟩
def KT(s:ga P cx){b:TypeId}{nb k p}(h:dG B N γ σ a w)(t:k<N)(u:find cx.w9 b=aa p)
  (v:((mkObj (nb+k) (LC σ<|nb+k) p 0 σ).bind λr=>r.2.bB (nb+k) r.1 b false λaR σ=>.ret (σ.put k<|.ptr (nb+k) aR [])).run=aa aV) : py P B N γ σ a w (aa k) (Instr.alloc b true<|.tuple #[]) aV:=by
 obtain⟨r,x,y⟩:=bind_some v;obtain⟨f,g,i,A,C⟩:=Vt h.ok x;obtain⟨aR,c,j⟩:=ed y;obtain rfl:=aI j;obtain⟨z,D,l⟩:=abX (s.w9 _ _ u) w;have m:LC σ (nb+k)<=aR:=by unfold LC;split;{rename_i bx n;obtain⟨E,G,H,_⟩:=i.boxes _ bx n;grind};grind
 let bx:eF:={ val:=r.1,tid:=b,buf:=false,ro:=false,lk:=false,aR }
 have q:xc B w (w.alloc<|.cells z.cells b):=(xc.refl _ _).alloc g.base _;have hx:=xd (L:=aa (w.heap.size,0)) g (bx:=bx) c q (dh w _);have o:eL (bR f (nb+k)<|some (w.heap.size,0)) _ _ (nb+k) bx :=
  ⟨w.heap.size,0,z.cells,b,_,by simp[bR],heap_alloc_new w _,vU _,.inr rfl,by
   rw[l];exact C _ _ _ hx ⟨bx,w.heap.size,0,bE _ _,m,by simp[bR]⟩⟩
 refine⟨.pointer<|some ⟨w.heap.size,0,af⟩,_,_,?_,?_,i.trans hx⟩
 .simp only[Instr.alloc,Sem.run_bind,D,Result.andThen_ok,uH,Sem.run_pure]
 .have:=h.step (i.trans hx) (g.add c q (dh w _) (λF k e=>by obtain⟨rfl,rfl⟩:=eX (aI e);exact⟨b0 _,aT⟩) o) t (DP);rw[<-A] at this;exact this
def J0{b j v σ r}(c:(pr b [] j v σ).run=aa r):r=(v,σ):=by cases v with|data t x=>(cases t<;>first|(obtain rfl:=aI c;rfl)|cases c)|_=>cases c
def GP{b j f q v σ r}(h:(pr b (f::q) j v σ).run=aa r) :
  (∃x u y,v=.mix x u/\(pr b q (j+1) u σ).run=aa y/\r=(.mix x y.1,y.2)) \/ (∃e i u,v=.mix .qw u/\0<e.size/\(σ.bB (b*1000+999-j) (.data (.slice e) []) i true λm σ=>(pr b q (j+1) u σ).bind λx=>.ret (.mix (.whole (b*1000+999-j) m) x.1,x.2)).run=aa r):=by
 cases v with|mix a u =>(cases f with|dat t =>(cases a with|data p z =>(obtain⟨y,k,l⟩:=bind_some h;exact .inl ⟨_,u,y,rfl,k,(aI l).symm⟩)|_=>cases h)|one =>(cases a with|vN =>(obtain⟨y,k,l⟩:=bind_some h;exact .inl ⟨_,u,y,rfl,k,(aI l).symm⟩)|_=>cases h)|buf e i =>(cases a with|qw =>(obtain⟨o,n⟩:=aA h;exact .inr ⟨e,i,u,rfl,by simpa using o,n⟩)|_=>cases h)|fnc =>(cases a with|undef =>(obtain⟨y,k,l⟩:=bind_some h;exact .inl ⟨_,u,y,rfl,k,(aI l).symm⟩)|fn g c =>(obtain⟨y,k,l⟩:=bind_some h;exact .inl ⟨_,u,y,rfl,k,(aI l).symm⟩)|_=>cases h)|self=>cases a<;>cases h)|_=>cases f<;>cases h
def KU(p:ga P cx){b:TypeId}{nb k bf t}(h:dG B N γ σ a w)(q:k<N)(r:find cx.T b=aa t)
  (j:(xO nb bf k t σ).run=aa aV):py P B N γ σ a w (aa k) (Instr.alloc b true<|.tuple #[]) aV:=by
 unfold xO at j;split at j
 .rename_i e _;obtain⟨x,l⟩:=aA j;have m:0<e.size:=by simpa using x
  obtain⟨v,f,n⟩:=ed l;obtain⟨m1,s⟩:=h.ok.MD (tid:=0) f m;obtain⟨y,c,o⟩:=ed n;obtain rfl:=aI o;obtain⟨i,z,A,G,C,D⟩:=(p.T _ _ r).info;have E:(zeroValue b).run P w=.ok z w:=by simp[zeroValue,typeInfo,A,C]
  have g:cQ (bR γ ((nb+k)*1000+999) af) (dy σ.mem ((nb+k)*1000+999) { val:=.data (.slice e) ([]),tid:=0,buf:=true,ro:=false,lk:=false,aR:=v }) w (.whole ((nb+k)*1000+999) v) .cells z.cells.toList:=by rw[D];exact⟨⟨_,rfl,rfl⟩,gW (bE _ _) rfl ⟨e,0,rfl,rfl,.inl ⟨by simp[bR],rfl⟩⟩⟩
  obtain⟨F,u⟩:=m1.newVar c b (.inl rfl) g;refine⟨.pointer _,_,_,?_,h.step (s.trans u) F q DP,s.trans u⟩;simp only[Instr.alloc,Sem.run_bind,E,Result.andThen_ok,uH,Sem.run_pure]
 .exact Vs p h q r j
def PA{b}:∀{m j v σ γ r cs},bH B γ σ.mem w->cQ γ σ.mem w v .cells cs->(pr b m j v σ).run=aa r ->
  ∃c,bH B c r.2.mem w/\Ext B γ σ.mem w c r.2.mem w/\r.2.bj=σ.bj/\cQ c r.2.mem w r.1 .cells cs:=by
 intro m;induction m with|nil =>(intro j v σ γ r cs h l n;obtain rfl:=J0 n;exact⟨γ,h,Ext.refl _ _ _ _,rfl,l⟩)|cons f q G =>intro j v σ γ r cs h l n;rcases GP n with ⟨x,u,y,rfl,o,rfl⟩|⟨e,I,u,rfl,J,p⟩;{obtain⟨s,t,rfl,z,A⟩:=l;obtain⟨c,C,g,D,E⟩:=G h A o;exact⟨c,C,g,D,s,t,rfl,z.ext g,E⟩};obtain⟨k,i,F⟩:=ed p;obtain⟨y,o,K⟩:=bind_some F;obtain rfl:=aI K;obtain⟨s,t,rfl,z,A⟩:=l;obtain⟨m1,H⟩:=h.MD i J;obtain⟨c,C,g,D,E⟩:=G m1 (A.ext H) o;obtain rfl:s=[.slice af 0 0]:=z;refine⟨c,C,H.trans g,D,[.slice af 0 0],t,rfl,?_,E⟩;refine cQ.ext g ?_;exact⟨⟨_,rfl,rfl⟩,gW (bE _ _) rfl ⟨e,0,rfl,rfl,.inl ⟨by simp[bR],rfl⟩⟩⟩
def PB{elem nb k x j}(h:dG B N γ σ a w)(l:k<N)(m:dd σ x≠.undef)(n:∀u,dd σ x≠.Ct u)
  (o:((pr (nb+k) j 0 (dd σ x) σ).bind λr=>r.2.bB (nb+k) r.1 elem false λb σ=>.ret (σ.put k<|.ptr (nb+k) b [])).run=aa aV) : py P B N γ σ a w (aa k) (Instr.box elem<|a.eval x) aV:=by
 obtain⟨r,p,q⟩:=bind_some o;obtain⟨s,t,g,v,y⟩:=PA h.ok ((h.dd x).kp n λe=>absurd e m) p;obtain⟨b,c,f⟩:=ed q;obtain rfl:=aI f;obtain⟨m1,i⟩:=t.newVar c elem (.inr rfl) y;refine⟨.pointer<|some ⟨w.heap.size,0,af⟩,_,_,?_,?_,g.trans i⟩
 .simp only[Instr.box,Sem.run_bind,uH,Result.andThen_ok,Sem.run_pure]
 .have:=h.step (g.trans i) m1 l DP;rw[<-v] at this;exact this
def ab2{elem nb k x}(h:dG B N γ σ a w)(i:k<N)(j:dd σ x≠.undef)(l:∀u,dd σ x≠.Ct u)
  (m:(σ.bB (nb+k) (dd σ x) 0 false λb σ=>.ret (σ.put k<|.ptr (nb+k) b [])).run=aa aV) : py P B N γ σ a w (aa k) (Instr.box elem<|a.eval x) aV:=by
 obtain⟨b,c,f⟩:=ed m;obtain rfl:=aI f;obtain⟨m1,g⟩:=h.ok.newVar c elem (.inl rfl) ((h.dd x).kp l λe=>absurd e j);refine⟨.pointer _,_,_,?_,h.step g m1 i DP,g⟩;simp only[Instr.box,Sem.run_bind,uH,Result.andThen_ok,Sem.run_pure]
def ahM{mem}:∀{u v k vs},cQ γ mem w u .many vs->nth u k=aa v->∃x,vs[k]?=aa x/\cQ γ mem w v .val [x]:=by intro u;induction u with|mix p q e b =>(intro v k vs h hn;obtain⟨c,r,rfl,f,g⟩:=h;cases k with|zero=>(obtain rfl:=aI hn;exact⟨c,rfl,f⟩)|succ k=>obtain⟨x,i,j⟩:=b g hn;exact⟨x,by simpa using i,j⟩)|_=>intro v k vs h hn;exact absurd hn cp
def PC{x k vs v}(h:dG B N γ σ a w)(e:∀k,d=aa k->k<N)(f:dd σ x=.Ct vs)(g:nth vs k=aa v) :
  py P B N γ σ a w d (Instr.extract (a.eval x) k) (σ.bu d v):=by
 have hv:=h.dd x;rw[f] at hv;obtain⟨b,c,i⟩:=hv;obtain c:a.eval x=_:=by simpa using c
 obtain⟨y,j,l⟩:=ahM i g;refine bM h e ?_ l;rw[c];have:b[k]?=aa y:=by simpa using j
 simp only[Instr.extract,this,Sem.run_pure]
def ae4:∀{ops:List Operand} {cs},dG B N γ σ a w->Il (ops.map<|dd σ)=aa cs->cs.length=ops.length /\
  ∀(i:Nat) b aR,cs[i]?=aa (b,aR)->oI σ.mem b aR λ_=>∃c g,γ.loc b=aa (c,g)/\(ops.map a.eval)[i]?=aa (.pointer<|some ⟨c,0,af⟩):=by
 intro ops;induction ops with|nil=>(intro cs h f;obtain rfl:=aI f;exact⟨rfl,λi b aR k=>by cases k⟩)|cons o r q =>intro cs h f;have n:=h.dd o;unfold Il at f;split at f;{rename_i j;cases j};{rename_i D p E j;injection j with s t;subst t;rw[s] at n;cases l:Il _ with|none=>rw[l] at f;cases f|some u =>rw[l] at f;obtain rfl:=aI f;obtain⟨v,F⟩:=q h l;refine⟨by simp[v],λi b aR k=>?_⟩;cases i with|zero =>(obtain⟨rfl,rfl⟩:=eX (aI k);obtain⟨x,y,z,A⟩:=n.2;refine⟨x,y,z,λe=>?_⟩;obtain⟨c,g,C,m⟩:=A e;obtain m:a.eval o=_:=by simpa using m);exact⟨c,g,C,by simp[m,er]⟩|succ i =>grind};cases f
def MK{f:Nat}{c:Array Operand}{cs}(h:dG B N γ σ a w)(g:∀k,d=aa k->k<N)(e:Il (c.toList.map<|dd σ)=aa cs) :
  py P B N γ σ a w d (Instr.makeFunc (.func f) #[] (c.map a.eval)) (σ.bu d<|.fn f cs):=by
 obtain⟨j,m⟩:=ae4 h e;refine bM h g rfl ?_;refine⟨c.map a.eval,rfl,by rw[j];simp,λi b l n=>?_⟩
 grind
end
end Go.Ge
