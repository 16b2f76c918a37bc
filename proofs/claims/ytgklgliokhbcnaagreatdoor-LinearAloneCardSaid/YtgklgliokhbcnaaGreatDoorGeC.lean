import Derived.Test.YtgklgliokhbcnaaGreatDoorGeB
set_option linter.unusedVariables false
set_option linter.unusedSimpArgs false
set_option linter.unusedSectionVars false
set_option linter.defProp false
open Option renaming some->aa,none->af
open Sum renaming inr->aB
namespace Go.Ge
open RowKit
section
variable {P:Program} {B:BT} {N:Nat} {γ:Gh} {σ aQ:St} {a:Act} {w:World} {d:Option Nat} {cx:Ctx}
def IW{s b k f u}(e:P.underlying s=aa (.struct b))(g:b.toList[k]?=aa f)(h:Den P u f.type)(j:0<u.size) blk off :
  (Instr.fieldAt s (.pointer<|some ⟨blk,off,af⟩) k).run P w=.ok (.pointer<|some ⟨blk,off+f.offset,af⟩) w:=by
 have c:b[k]?=aa f:=by simpa using g
 have i:¬(u.size=0):=ag;simp only[Instr.fieldAt,Sem.run_bind,run_underlying e,Result.andThen_ok,c,Instr.sureAddr,Sem.run_pure,fieldPlace,h.sizeOf w,aJ i,addr_add]
def Rw{s b k f i}(g:P.underlying s=aa (.struct b))(h:b.toList[k]?=aa f)(j:P.info? f.type=aa i)(m:0<i.size) blk off :
  (Instr.fieldAt s (.pointer<|some ⟨blk,off,af⟩) k).run P w=.ok (.pointer<|some ⟨blk,off+f.offset,af⟩) w:=by
 have c:b[k]?=aa f:=by simpa using h
 have l:¬(i.size=0):=ag;have e:(Go.sizeOf f.type).run P w=.ok i.size w:=by simp[Go.sizeOf,typeInfo,j]
 simp only[Instr.fieldAt,Sem.run_bind,run_underlying g,Result.andThen_ok,c,Instr.sureAddr,Sem.run_pure,fieldPlace,e,aJ l,addr_add]
def Ew{t s}(g:Den P t s){k u o}(e:uR t k=aa u)(h:iG t k=aa o) :
  ∃(c:Array Field) (f:Field),P.underlying s=aa (.struct c)/\c.toList[k]?=aa f/\f.offset=o/\Den P u f.type/\0<u.size:=by
 cases t with
 | pair a b =>
   obtain⟨c,j,i,_⟩:=g.pair;obtain⟨f,l,m,n,p⟩:=i.at e h
   grind
 | _=>cases k<;>cases e
def DL(G:fi P cx){s x k}(h:dm B N γ σ a w)(H:∀k,d=aa k->k<N)(r:(fc cx d s (cW σ x) k σ).run=aa aQ) :
  nU P B N γ σ a w d (Instr.fieldAt s (a.eval x) k) aQ:=by
 have hv:=h.cW x;unfold fc at r;split at r
 .rename_i u y I;rw[I] at hv;obtain⟨J,c⟩:=ay r;split at c
  .rename_i o t z S;obtain rfl:=aF c;obtain⟨g,l,U,K,V,W⟩:=hv;obtain K:a.eval x=_:=by simpa using K
   obtain⟨t',z',X,Y,Z,e4,e5⟩:=Ev V S;cases X;obtain⟨O,f,A,C,Q,D,E⟩:=Ew (G.T _ _<|jF J) Y Z;refine bM h H (by rw[K];exact IW A C D E g l) ⟨g,l+f.offset,(U.drop o).take t.size,rfl,e5,λj v F=>?_⟩;rw[jq] at F;split at F
   .rw[tu] at F;have:=W _ v F
    grind
   .cases F
  .cases c
 .rename_i b aM p I;rw[I] at hv;obtain⟨J,c⟩:=ay r;obtain⟨R,m,n⟩:=kQ J;split at c
  .rename_i t hT;split at c
   .rename_i l u L hu;obtain rfl:=aF c;obtain⟨g,q,M,e⟩:=bk m n hv.2;obtain e:a.eval x=_:=by simpa using e
    obtain⟨O,f,A,C,Q,D,E⟩:=Ew (G.T _ _ hT) hu L;refine bM h H (by rw[e];exact IW A C D E g _) ⟨⟨_,rfl,rfl⟩,R,m,ag,λ_=>⟨g,q,M,?_⟩⟩;rw[BS];simp[eg]
   .cases c
  .split at c
   .rename_i O hO;split at c
    .rename_i l L;obtain rfl:=aF c;obtain⟨g,q,M,e⟩:=bk m n hv.2;obtain e:a.eval x=_:=by simpa using e
     obtain⟨gs,f,i,A,C,Q,D,E⟩:=agr (G.vO _ _ hO) L;refine bM h H (by rw[e];exact Rw A C D E g _) ⟨⟨_,rfl,rfl⟩,R,m,ag,λ_=>⟨g,q,M,?_⟩⟩;rw[BS];simp[eg]
    .cases c
   .cases c
 .cases r
def Uc(i:fi P cx){e:TypeId}{k o u y v val}(j:find cx.T e=aa u)(l:cu γ σ.mem w (.data u y) .val [val])(m:vB (.data u y) k=aa (o,v)) :
  ∃z,(Instr.field e val k).run P w=.ok z w/\cu γ σ.mem w v .val [z]:=by
 obtain⟨cs,n,rfl⟩:=ej.1 l;obtain⟨p,D,rfl,g,q,r,s⟩:=Ev n m;obtain⟨t,f,x,A,h,C,E⟩:=Ew (i.T _ _ j) g q;have b:u.isAgg=true:=by cases u<;>first|rfl|(cases k<;>cases g)
 refine⟨cZ p _,?_,_,s,rfl⟩;have c:t[k]?=aa f:=by simpa using A
 simp only[cZ,b,wP,Instr.field,Sem.run_bind,run_underlying x,Result.andThen_ok,c,asAgg,Sem.run_pure,(CY C (cs:=cs.toArray) (off:=f.offset) (by rw[h];simpa using r) uV)];rw[h]
def nV{t b h}(j:P.underlying t=aa (.slice b))(l:(Go.sizeOf b).run P w=.ok h w)(c e f g:Nat) k {i:Int} (m:0<=i) (n:i<f) :
  (Instr.indexAt t (.slice (aa ⟨c,e,af⟩) f g)<|.int k i).run P w=.ok (.pointer<|some ⟨c,e+i.toNat*h,af⟩) w:=by
 simp only[Instr.indexAt,asIntOf,Sem.run_bind,Sem.run_pure,Result.andThen_ok,run_underlying j,TU,m,n,x9,l,addr_add]
def Bc{t b c n}(e:P.underlying t=aa (.array n b))(f:(Go.sizeOf b).run P w=.ok c w) blk off k {i:Int} (g:0<=i) (h:i<n) :
  (Instr.indexAt t (.pointer<|some ⟨blk,off,af⟩)<|.int k i).run P w=.ok (.pointer<|some ⟨blk,off+i.toNat*c,af⟩) w:=by
 simp only[Instr.indexAt,asIntOf,Sem.run_bind,Sem.run_pure,Result.andThen_ok,run_underlying e,Instr.sureAddr,TU,g,h,x9,f,addr_add]
def BV{i n}(h:within i n=true):0<=i/\i<n:=by
 simp only[within,gz,Ae] at h;exact h
def jU{i j n}(h:inside i j n=true):0<=i/\i<=j/\j<=n:=by
 simp only[inside,gz,Ae] at h;exact⟨h.1.1,h.1.2,h.2⟩
def FG{b aM e n}(h:Ai σ b aM=aa (e,n)):∃(i:Box) (k:Nat),σ.mem b=aa i/\i.aM=aM/\i.row=aa (e,k)/\n=k:=by
 unfold Ai at h;split at h
 .rename_i i j;cases c:Nat.beq i.aM aM with
  | false=>rw[c] at h;cases h
  | true =>
    rw[c] at h;split at h
    .rename_i m l f g;obtain⟨rfl,rfl⟩:=eh (aF h);exact⟨i,_,j,gA c,by rw[Box.row,f,g],rfl⟩
    .rename_i o m l f g;obtain⟨rfl,rfl⟩:=eh (aF h);exact⟨i,_,j,gA c,by rw[Box.row,f,g],rfl⟩
    .cases h
 .cases h
def Box.dV{bx:Box}{e:Ty}{l:List e.den}(b:bx.buf=true)(c:bx.val=.data (.slice e) l):bx.row=aa (e,l.length):=by rw[Box.row,b,c]
def Box.r8{b:Box}{e n l}(c:b.buf=false)(f:b.val=.data (.arr n e) l):b.row=aa (e,n):=by rw[Box.row,c,f]
def Ap(c:fi P cx){t e:Nat}(h:PN cx t=aa e):P.underlying t=aa (.slice e)/\cU cx.uQ e=true:=by
 unfold PN at h;split at h
 .cases h
 .split at h
  .rename_i u f;cases b:cU cx.uQ u with
   | false=>rw[b] at h;cases h
   | true =>
     rw[b] at h;obtain rfl:=aF h;exact⟨c.els _ _ f,b⟩
  .cases h
def WZ{b aM i}:∀{m k},(Lq d b aM σ i m k).run=aa aQ->∃j,k<=j/\j<k+m/\i=j/\aQ=σ.bt d (.ptr b aM [.gB j j]):=by
 intro m;induction m with
 | zero=>intro k c;cases c
 | succ m e =>
   intro k c;have hn:=gG c;cases hi:aG i k with
   | true =>
     rw[hi] at hn;obtain rfl:=aF hn;exact⟨k,bX _,ag,by simpa [aG] using hi,rfl⟩
   | false =>
     grind
def IX{q}(h:KA q=true):eg q=0:=by
 unfold KA at h;split at h
 .simp[eg,gA h]
 .cases h
def vE(R:fi P cx){ty x S i}(h:dm B N γ σ a w)(Y:∀k,d=aa k->k<N)(A:(eE cx d ty (cW σ x) i σ).run=aa aQ) :
  nU P B N γ σ a w d (Instr.indexAt ty (a.eval x)<|.int S i) aQ:=by
 have hv:=h.cW x;unfold eE at A;split at A
 .rename_i u e l K F;rw[F] at hv;obtain⟨C,o⟩:=ay A;obtain rfl:=Ty.eq_of_beq C;obtain⟨y,hy,z⟩:=cd o;obtain rfl:=aF z;obtain⟨L,G⟩:=uT hy;obtain⟨M,H,I,k3,k4⟩:=(R.T _ _ K).slice;obtain⟨cs,E,t⟩:=ej.1 hv;have hi:=(hR.1 G).1;rcases E with ⟨_,E⟩|⟨f,J,r,E,h2,h3,h4⟩
  .grind
  .rw[E] at t;have U:a.eval x=.slice _ _ r:=t;obtain⟨es,g1,V,O⟩:=h4 _ y G;refine bM h Y (by rw[U];exact nV H (I.sizeOf w) f J _ r S L ag) ⟨f,J+i.toNat*u.size,es,rfl,O,λj v W=>?_⟩
   grind
 .rename_i m u n e l K F;rw[F] at hv;obtain⟨C,o⟩:=ay A;simp only[gz] at C;obtain rfl:=Ty.eq_of_beq C.1;obtain rfl:=gA C.2;obtain⟨y,hy,z⟩:=cd o;obtain rfl:=aF z;obtain⟨L,G⟩:=uT hy;obtain⟨M,H,I,k3⟩:=(R.T _ _ K).arr;obtain⟨f,J,cs,E,h2,h3⟩:=hv;obtain E:a.eval x=_:=by simpa using E
  have hi:i.toNat<m:=by have:=(hR.1 G).1;have:=h2.1;omega
  refine bM h Y (by rw[E];exact Bc H (I.sizeOf w) f J S L ag) ⟨f,J+i.toNat*u.size,_,rfl,(h2.2.2 _ y G),λj v W=>?_⟩;rw[jq] at W;split at W
  .rw[tu] at W;have:=h3 _ v W
   grind
  .cases W
 .rename_i u b X K F;rw[F] at hv;split at A
  .rename_i e n he;obtain⟨C,o⟩:=ay A;obtain rfl:=Ty.eq_of_beq C;obtain⟨hw,z⟩:=cQ o;obtain rfl:=aF z;obtain⟨L,E⟩:=BV hw;obtain⟨Q,k,g,s,D,rfl⟩:=FG he;obtain⟨M,H,I,k3,k4⟩:=(R.T _ _ K).slice;obtain⟨e',n',g1,V,O⟩:=bk g s hv.2;rw[D] at V;obtain⟨rfl,rfl⟩:=eh (aF V);rcases O with ⟨O,Z⟩|⟨f,r,O,Z⟩
   .exfalso;have hat:=h.ok.boxes b Q g;rw[ew,g1] at hat;obtain⟨e2,l,j1,j2,j3⟩:=hat;rcases j3 with ⟨_,j4⟩|⟨_,_,_,_,_,j3,_⟩
    .rw[Box.dV g1 j1] at D
     grind
    .grind
   .obtain Z:a.eval x=_:=by simpa using Z
    refine bM h Y (by rw[Z];exact nV H (I.sizeOf w) f 0 _ r S L E) ⟨⟨_,rfl,rfl⟩,Q,g,ag,λ_=>⟨f,r,O,by simp[eg]⟩⟩
  .cases A
 .rename_i u b X lo n K F;rw[F] at hv;split at A
  .rename_i e n2 he;obtain⟨C,o⟩:=ay A;obtain rfl:=Ty.eq_of_beq C;obtain⟨hw,z⟩:=cQ o;obtain rfl:=aF z;obtain⟨L,E⟩:=BV hw;obtain⟨Q,k,g,s,D,rfl⟩:=FG he;obtain⟨M,H,I,k3,k4⟩:=(R.T _ _ K).slice;obtain⟨e',n',V,O,Z,g5,base,r,g6,g7,g8,gF,g9⟩:=bk g s hv.2;rw[D] at V;obtain⟨rfl,rfl⟩:=eh (aF V);rcases g9 with g9|⟨f,c,g9,g10⟩
   .omega
   .obtain g6:a.eval x=_:=by simpa using g6
    refine bM h Y (by rw[g6,g10];exact nV H (I.sizeOf w) f _ _ r S L ag) ⟨⟨_,rfl,rfl⟩,Q,g,ag,λ_=>⟨f,c,g9,?_⟩⟩;have:(plus lo i).toNat=lo.toNat+i.toNat:=by simp only[plus];omega
    simp only[eg,this,iF,Fm]
  .cases A
 .rename_i m u b X p K F;rw[F] at hv;obtain⟨C,o⟩:=ay A;obtain⟨Q,g,s⟩:=kQ C;obtain⟨hw,z⟩:=cQ o;obtain rfl:=aF z;obtain⟨L,E⟩:=BV hw;obtain⟨M,H,I,k3⟩:=(R.T _ _ K).arr;obtain⟨f,r,hl,t⟩:=bk g s hv.2;obtain t:a.eval x=_:=by simpa using t
  refine bM h Y (by rw[t];exact Bc H (I.sizeOf w) f _ S L E) ⟨⟨_,rfl,rfl⟩,Q,g,ag,λ_=>⟨f,r,hl,?_⟩⟩;rw[BS];simp[eg]
 .rename_i b X q e0 k0 lo n K F;rw[F] at hv;split at A
  .rename_i e he;obtain⟨C,o⟩:=ay A;simp at C;obtain⟨⟨hq,rfl⟩,hl⟩:=C;obtain⟨Q,g,s⟩:=kQ hl;obtain⟨H,I⟩:=Ap R he;obtain⟨j,_,W,rfl,rfl⟩:=WZ o;obtain⟨_,f,c,g1,V,O,Z,base,r,g5,g6,g7⟩:=bk g s hv.2;obtain g5:a.eval x=_:=by simpa using g5
   rcases g7 with g7|g7
   .grind
   .rw[IX hq] at g7;have hj':(j:Int)<n.toNat:=ag;refine bM h Y (by rw[g5,g7];exact nV H ((R.uQ _ I).2.1 w) f _ _ r S ag hj') ⟨⟨_,rfl,rfl⟩,Q,g,ag,λ_=>⟨f,c,g1,?_⟩⟩;simp[eg]
  .cases A
 .cases A
def JN(r:fi P cx){ty x s i}(h:dm B N γ σ a w)(z:∀k,d=aa k->k<N)(p:(mR cx d ty (cW σ x) i σ).run=aa aQ) :
  nU P B N γ σ a w d (Instr.indexAt ty (a.eval x)<|.int s i) aQ:=by
 have hv:=h.cW x;unfold mR at p;split at p
 .rename_i b E q O Q R n e F G;rw[F] at hv;obtain⟨A,f⟩:=ay p;simp at A;obtain⟨⟨H,rfl⟩,I⟩:=A;obtain⟨J,g,l⟩:=kQ I;obtain⟨K,L⟩:=Ap r G;split at f
  .rename_i j;obtain⟨C,t⟩:=ay f;obtain rfl:=aF t;have C:=fU C;obtain⟨_,m,c,M,S,T,U,D,u,v,V,o⟩:=bk g l hv.2;obtain v:a.eval x=_:=by simpa using v
   rcases o with o|o
   .grind
   .rw[IX H] at o;have y:(j:Int)<n.toNat:=ag;show nU P B N γ σ a w d (Instr.indexAt ty _<|.int s j) _
    refine bM h z (by rw[v,o];exact nV K ((r.uQ _ L).2.1 w) m _ _ u s ag y) ⟨⟨_,rfl,rfl⟩,J,g,ag,λ_=>⟨m,c,M,?_⟩⟩;simp[eg]
  .cases f
 .exact vE r h z p
def u8_in b:IntKind.u8.min<=u8 b/\u8 b<=IntKind.u8.max:=by
 have:=b.toNat_lt;have c:IntKind.u8.min=0:=aD;have e:IntKind.u8.max=255:=aD;simp only[u8];omega
def JO(C:fi P cx){ty x G i}(h:dm B N γ σ a w)(D:∀k,d=aa k->k<N)(j:(mS cx d ty (cW σ x) i σ).run=aa aQ) :
  nU P B N γ σ a w d (Instr.index ty (a.eval x)<|.int G i) aQ:=by
 have hv:=h.cW x;unfold mS at j;split at j
 .rename_i s o p;rw[p] at hv;obtain⟨b,q,g⟩:=cd j;obtain rfl:=aF g;obtain⟨r,f⟩:=uT q;obtain⟨c,Q⟩:=yP hv;refine bM h D ?_ (mkInt<|u8_in b);rw[c];have H:(⟨List.toArray s⟩:ByteArray)[i.toNat]?=aa b:=by
   have:=(hR.1 f);obtain⟨I,J⟩:=this;rw[getElem?_pos _ i.toNat I];exact congrArg aa J
  simp only[Instr.index,asIntOf,Sem.run_bind,Sem.run_pure,Result.andThen_ok,run_underlying ((C.T _ _ o).str),r,H];rfl
 .rename_i m u n e l o p;rw[p] at hv;obtain⟨t,v⟩:=ay j;simp only[gz] at t;obtain rfl:=Ty.eq_of_beq t.1;obtain rfl:=gA t.2;obtain⟨y,q,g⟩:=cd v;obtain rfl:=aF g;obtain⟨r,f⟩:=uT q;obtain⟨K,L,E,R⟩:=(C.T _ _ o).arr;obtain⟨F,z,c⟩:=ej.1 hv;have hi:i.toNat<m:=by have:=(hR.1 f).1;have:=z.1;omega
  have M:_*u.size<=m*u.size:=gN _ hi;rw[Hf] at M;have O:=z.2.1;refine bM h D ?_ ⟨_,(z.2.2 _ y f),rfl⟩;have A:i<m:=ag;rw[c];show(Instr.index ty (.agg F.toArray) _).run P w=_
  simp only[Instr.index,asIntOf,Sem.run_bind,Sem.run_pure,Result.andThen_ok,run_underlying L,r,A,TU,x9,E.sizeOf w,(CY E (cs:=F.toArray) (off:=i.toNat*u.size) cJ uV)]
 .cases j
def sb0 isSlice len cap:(Instr.sliceBounds isSlice len cap af af af).run P w=.ok (0,len,cap) w:=by simp[Instr.sliceBounds]
def sbh isSlice (len cap:Nat) k {y:Int} (b:0<=y) (c:y<=cap):(Instr.sliceBounds isSlice len cap af (aa<|.int k y) af).run P w=.ok (0,y.toNat,cap) w:=by
 have e:0<=y/\y<=cap:=⟨b,c⟩;simp only[Instr.sliceBounds,Instr.sliceBound,asIntOf,Sem.run_bind,Sem.run_pure,Result.andThen_ok,e,TU,x9]
def sbl isSlice (len cap:Nat) k {y:Int} (b:0<=y) (c:y<=len):(Instr.sliceBounds isSlice len cap (aa<|.int k y) af af).run P w=.ok (y.toNat,len,cap) w:=by
 have e:0<=y/\y<=len:=⟨b,c⟩;simp only[Instr.sliceBounds,Instr.sliceBound,asIntOf,Sem.run_bind,Sem.run_pure,Result.andThen_ok,e,TU,x9]
def alF isSlice (len cap:Nat) k c {y b:Int} (e:0<=y) (g:y<=b) (f:b<=cap):(Instr.sliceBounds isSlice len cap (aa<|.int k y) (aa<|.int c b) af).run P w=.ok (y.toNat,b.toNat,cap) w:=by
 have h:0<=b/\b<=cap:=⟨ag,f⟩;have i:0<=y/\y<=b.toNat:=⟨e,ag⟩;simp only[Instr.sliceBounds,Instr.sliceBound,asIntOf];simp_all
def qW{lo hi n i j}(h:dm B N γ σ a w)(b:bounds σ n lo hi=aa (i,j)) isSlice (len cap:Nat) (hn:n=len) (s:len<=cap) (p:0<=i) (q:i<=j) (x:j<=n) :
  (Instr.sliceBounds isSlice len cap (lo.map a.eval) (hi.map a.eval) af).run P w=.ok (i.toNat,j.toNat,cap) w:=by
 have c:∀o k m,cW σ o=.data (.int k) m->a.eval o=.int k m:=λo k m e=>by
  have:=h.cW o;rw[e] at this;exact(vm this).1
 unfold bounds at b;cases lo with
 | none =>
   cases hi with
   | none =>
     have:=sb0 (P:=P) (w:=w) isSlice len cap
     grind
   | some o =>
     simp only at b;split at b
     .rename_i k y f;obtain⟨rfl,g⟩:=eh (aF b);have e:=c o k _ f;rw[show y=j from g] at e;simp only[PK,e];exact sbh isSlice len cap k q ag
     .cases b
 | some o =>
   cases hi with
   | none =>
     simp only at b;split at b
     .rename_i k y f;have:=sbl (P:=P) (w:=w) isSlice len cap k p ag
      grind
     .cases b
   | some o2 =>
     simp only at b;split at b
     .rename_i k y r t f l;obtain⟨u,v⟩:=eh (aF b);have e:=c o k _ f;have g:=c o2 r _ l;rw[show y=i from u] at e;rw[show t=j from v] at g;simp only[PK,e,g];exact alF isSlice len cap k r p q ag
     .cases b
def adJ s {i j} (b:0<=i) (c:i<=j):(⟨s.toArray⟩:ByteArray).extract i.toNat j.toNat=⟨(sub s i<|minus j i).toArray⟩:=by
 have:(minus j i).toNat=j.toNat-i.toNat:=by simp only[minus];omega
 apply ByteArray.ext;simp[sub,this]
def W0{α}(s:List α) i n:(sub s i n).length<=s.length:=by
 simp only[sub,dk,qU];omega
def adK{I e}{l:List e.den}{blk off cap i j}(h:∀k x,l[k]?=aa x->∃b,b.length=e.size /\
   (∀q v,b[q]?=aa v->w.cell? ⟨blk,off+k*e.size+q,af⟩=aa v/\I blk (off+k*e.size+q))/\bH w I e x b) (m:i<=j) (n:j<=l.length) (o:l.length<=cap) (p:cap<=maxLen) base
  (f:base=aa ⟨blk,off+i*e.size,af⟩\/(i=cap/\base=aa ⟨blk,off,af⟩)) :
  bH w I (.slice e) ((l.drop i).take<|j-i) [.slice base (j-i)<|cap-i]:=by
 rcases f with rfl|⟨rfl,rfl⟩
 .refine .inr ⟨blk,off+i*e.size,cap-i,?_,?_,ag,λk x g=>?_⟩
  .grind
  .grind
  .grind
 .have c:j=i:=ag;subst c;refine .inr ⟨blk,off,0,aS,aS,ag,λk x g=>?_⟩
  grind
def sub_eq{α}(l:List α){i j}(b:0<=i)(c:i<=j):sub l i (minus j i)=(l.drop i.toNat).take (j.toNat-i.toNat):=by
 have:(minus j i).toNat=j.toNat-i.toNat:=by simp only[minus];omega
 rw[sub,this]
def sub_zero{α}(l:List α):sub l 0 (minus 0 0)=[]:=by simp[sub,minus]
def aaF{I e l blk off cap i j}(c:∀k x,l[k]?=aa x->∃b,b.length=e.size /\
   (∀q v,b[q]?=aa v->w.cell? ⟨blk,off+k*e.size+q,af⟩=aa v/\I blk (off+k*e.size+q))/\bH w I e x b) (f:0<=i) (g:i<=j) (o:j<=l.length) (h:l.length<=cap) (m:cap<=maxLen) base
  (n:base=aa ⟨blk,off+i.toNat*e.size,af⟩\/(i.toNat=cap/\base=aa ⟨blk,off,af⟩)) :
  bH w I (.slice e) (sub l i<|minus j i) [.slice base (j.toNat-i.toNat)<|cap-i.toNat]:=by
 rw[sub_eq l f g];exact adK c ag ag h m base n
def wV.sub{base cap}(h:wV base cap) i s:wV (if cap=i then base else base.map (·.add s)) (cap-i):=by
 rcases h with rfl|⟨b,c,rfl⟩
 .exact .inl ag
 .refine .inr ?_;split
  .grind
  .exact⟨b,c+s,by rw[PK,addr_add]⟩
def FB.sub{f b lo i base cap}(h:FB γ f b lo base cap)(j:0<=lo)(n:0<=i) s :
  FB γ f b (plus lo i) (if cap=i.toNat then base else base.map (·.add (i.toNat*s))) (cap-i.toNat):=by
 intro e k;have l:lo=0:=by simp only[plus] at e;omega
 have m:i=0:=by simp only[plus] at e;omega
 subst l;subst m;rcases h rfl k with ⟨g,rfl,rfl⟩|⟨c,g,rfl⟩
 .grind
 .refine .inr ⟨c,by simpa using g,?_⟩;split
  .rfl
  .simp[Addr.add]
def JP(hc:fi P cx){ty:TypeId}{x:Operand}{lo hi:Option Operand}(h:dm B N γ σ a w)(hd:∀k,d=aa k->k<N)(F:(mQ cx d ty (cW σ x) lo hi σ).run=aa aQ) :
  nU P B N γ σ a w d (Instr.sliceAt ty (a.eval x) (lo.map a.eval) (hi.map a.eval) af) aQ:=by
 have hv:=h.cW x;unfold mQ at F;split at F
 ·
  rename_i s O Q;rw[Q] at hv;split at F
  .rename_i i j G;obtain⟨A,r⟩:=cQ F;obtain rfl:=aF r;obtain⟨D,J,E⟩:=jU A;obtain⟨p,hl⟩:=yP hv;have hu:=(hc.T _ _ O).str;have y:=qW (P:=P) h G false (List.length (α:=UInt8) s) (List.length (α:=UInt8) s) rfl (bX _) D J E;refine bM h hd (x:=.string ⟨(sub (α:=UInt8) s i<|minus j i).toArray⟩) ?_ (mkStr<|gi (W0 (α:=UInt8) s _ _) hl);rw[p];have WG:(⟨List.toArray (α:=UInt8) s⟩:ByteArray).size=List.length (α:=UInt8) s:=rfl;simp only[Instr.sliceAt,Instr.slice,Sem.run_bind,run_underlying hu,Result.andThen_ok,WG,Option.isSome_none,Bool.false_eq_true,if_false];rw[y];simp only[Result.andThen_ok,Sem.run_pure];rw[adJ (show bg from s) D J]
  .cases F
 ·
  rename_i u e l O Q;rw[Q] at hv;obtain⟨t,o⟩:=ay F;obtain rfl:=Ty.eq_of_beq t;split at o
  .rename_i i j G;obtain⟨A,r⟩:=cQ o;obtain rfl:=aF r;obtain⟨D,J,E⟩:=jU A;obtain⟨Z,U,V,k3,k4⟩:=(hc.T _ _ O).slice;obtain⟨cs,alG,p⟩:=ej.1 hv;have H:len (α:=u.den) l=(List.length (α:=u.den) l:Int):=rfl;rcases alG with ⟨⟨K,e1⟩,e2⟩|⟨b,R,f,e1,e2,e3,e4⟩
   .have L:a.eval x=.slice K 0 0:=by rw[p,e1];rfl
    have M:List.length (α:=u.den) l=0:=by rw[show l=([]:List u.den) from e2];rfl
    rw[H,M] at E;have hi0:i=0:=ag;have hj0:j=0:=ag;subst hi0;subst hj0;have y:=qW (P:=P) h G true 0 0 (by rw[H,M]) (bX _) D J (by rw[H,M];exact E);refine bM h hd (x:=.slice K 0 0) ?_ ⟨_,.inl ⟨⟨K,rfl⟩,?_⟩,rfl⟩
    .rw[L];simp only[Instr.sliceAt,Instr.slice,Sem.run_bind,run_underlying U,Result.andThen_ok,y,V.sizeOf w,Sem.run_pure];rfl
    .exact sub_zero (α:=u.den) l
   .have L:a.eval x=.slice (aa ⟨b,R,af⟩) (List.length (α:=u.den) l) f:=by rw[p,e1];rfl
    have y:=qW (P:=P) h G true (List.length (α:=u.den) l) f H e2 D J E;have hj:j.toNat<=List.length (α:=u.den) l:=by rw[H] at E;omega
    have akh:=aaF (w:=w) (i:=i) (j:=j) e4 D J (by rw[H] at E;exact E) e2 e3;refine bM h hd (x:=.slice (if f=i.toNat then aa ⟨b,R,af⟩ else aa ⟨b,R+i.toNat*u.size,af⟩) (j.toNat-i.toNat) (f-i.toNat)) ?_
     ⟨_,akh (if f=i.toNat then aa ⟨b,R,af⟩ else aa ⟨b,R+i.toNat*u.size,af⟩) (by
      split
      .rename_i v;exact .inr ⟨v.symm,rfl⟩
      .exact .inl rfl),rfl⟩
    rw[L];simp only[Instr.sliceAt,Instr.slice,Sem.run_bind,run_underlying U,Result.andThen_ok,y,V.sizeOf w,Sem.run_pure,PK,addr_add]
  .cases o
 ·
  rename_i u c aM lo' n O Q;rw[Q] at hv;split at F
  .rename_i W z;obtain⟨t,o⟩:=ay F;simp only[gz] at t;have C:=gA t.1;split at o
   .rename_i i j G;obtain⟨A,r⟩:=cQ o;obtain rfl:=aF r;obtain⟨D,J,E⟩:=jU A;obtain⟨Z,U,V,k3,k4⟩:=(hc.T _ _ O).slice;obtain⟨e',k,g2,X,g4,g5,g,f,g6,g7,g8,gF,g9⟩:=bk z C hv.2;have hue:u=e':=by
     have:=t.2;rw[g2] at this;exact Ty.eq_of_beq this
    subst hue;obtain g6:a.eval x=_:=by simpa using g6
    have y:=qW (P:=P) h G true n.toNat f ag g7 D J E;refine bM h hd (x:=.slice (if f=i.toNat then g else g.map (·.add (i.toNat*u.size))) (j.toNat-i.toNat) (f-i.toNat)) ?_
     ⟨⟨_,rfl,rfl⟩,W,z,ag,λ_=>⟨u,k,g2,by simp only[plus];omega,by simp only[minus];omega,by simp only[plus,minus];omega,(if f=i.toNat then g else g.map (·.add (i.toNat*u.size))),f-i.toNat,?_,?_,?_,⟨gF.1.sub _ _,gF.2.sub X D _⟩,?_⟩⟩
    .rw[g6];simp only[Instr.sliceAt,Instr.slice,Sem.run_bind,run_underlying U,Result.andThen_ok,y,V.sizeOf w,Sem.run_pure]
    .have:(minus j i).toNat=j.toNat-i.toNat:=by simp only[minus];omega
     rw[this]
    .simp only[minus];omega
    .omega
    .rcases g9 with g9|⟨b,c',g9,g10⟩
     .exact .inl (by simp only[minus];omega)
     .by_cases v:f=i.toNat
      .exact .inl (by simp only[minus];omega)
      .refine .inr ⟨b,c',g9,?_⟩;rw[aJ v,g10];have:(plus lo' i).toNat=lo'.toNat+i.toNat:=by simp only[plus];omega
       simp only[PK,addr_add,this,iF]
   .cases o
  .cases F
 ·
  rename_i u c aM O Q;rw[Q] at hv;split at F
  .rename_i W z;obtain⟨t,o⟩:=ay F;simp only[gz] at t;have C:=gA t.1;split at o
   .rename_i e l hbv;obtain⟨hue,r⟩:=ay o;obtain rfl:=Ty.eq_of_beq hue;obtain⟨Z,U,V,k3,k4⟩:=(hc.T _ _ O).slice;obtain⟨e',n',g1,g2,X⟩:=bk z C hv.2;have adL:W.row=aa (u,List.length (α:=u.den) l):=Box.dV t.2 hbv;rw[adL] at g2;obtain⟨rfl,rfl⟩:=eh (aF g2);have hat:=h.ok.boxes c W z;rw[ew,g1] at hat;obtain⟨e2,l2,j1,j2,j3⟩:=hat;have aki:∃g f,a.eval x=.slice g (List.length (α:=u.den) l) f/\List.length (α:=u.den) l<=f/\f<=maxLen/\(((f=0/\List.length (α:=u.den) l=0)/\γ.loc c=af/\g=af)\/∃b,γ.loc c=aa (b,f)/\g=aa ⟨b,0,af⟩):=by
     rw[hbv] at j1;cases j1;rcases X with ⟨X,g4⟩|⟨b,f,X,g4⟩
     .obtain g4:a.eval x=_:=by simpa using g4
      rcases j3 with ⟨_,j4⟩|⟨_,_,_,_,_,j3,_⟩
      .have M:List.length (α:=u.den) l=0:=by rw[j4];rfl
       exact⟨af,0,by rw[g4,M],ag,pF _,.inl ⟨⟨rfl,M⟩,X,rfl⟩⟩
      .rw[X] at j3;cases j3
     .obtain g4:a.eval x=_:=by simpa using g4
      rcases j3 with ⟨j3,_⟩|⟨LJ,W1,cur,tid,fr,q1,Y,q3,adM,q4,q5,q6,q7⟩
      .rw[X] at j3;cases j3
      .rw[X] at q1;obtain⟨rfl,rfl⟩:=eh (aF q1);exact⟨_,f,g4,q4,q5,.inr ⟨b,X,rfl⟩⟩
    obtain⟨g,f,m1,m2,m3,m4⟩:=aki;have hF:wV g f:=by
     rcases m4 with ⟨⟨Y,_⟩,_⟩|⟨b,q1,Y⟩
     .exact .inl Y
     .exact .inr ⟨b,0,Y⟩
    have hZ:FB γ W c 0 g f:=λ_ _=>by
     rcases m4 with ⟨⟨Y,_⟩,q3,q4⟩|⟨b,q1,Y⟩
     .exact .inl ⟨q3,q4,Y⟩
     .exact .inr ⟨b,q1,Y⟩
    have I:∀{i j:Int},bounds σ (len (α:=u.den) l) lo hi=aa (i,j)->0<=i->i<=j->j<=len (α:=u.den) l ->
      (Instr.sliceAt ty (a.eval x) (lo.map a.eval) (hi.map a.eval) af).run P w=.ok (.slice (if f=i.toNat then g else g.map (·.add (i.toNat*u.size))) (j.toNat-i.toNat)<|f-i.toNat) w:=by
     intro i j G D J E;have y:=qW (P:=P) h G true (List.length (α:=u.den) l) f rfl m2 D J E;rw[m1];simp only[Instr.sliceAt,Instr.slice,Sem.run_bind,run_underlying U,Result.andThen_ok,y,V.sizeOf w,Sem.run_pure]
    split at r
    .obtain rfl:=aF r;have:=I (i:=0) (j:=len (α:=u.den) l) rfl ag (by simp only[len];omega) ag;have hjl:(len (α:=u.den) l).toNat=List.length (α:=u.den) l:=by simp[len]
     rw[hjl] at this;refine bM h hd (x:=a.eval x) ?_ hv;rw[this,m1]
     congr 1
     have:(g.map (·.add ((0:Int).toNat*u.size)))=g:=by cases g<;>simp[Addr.add]
     rw[this];simp
    .split at r
     .rename_i i j G;obtain⟨A,S⟩:=cQ r;obtain rfl:=aF S;obtain⟨D,J,E⟩:=jU A;have H:len (α:=u.den) l=(List.length (α:=u.den) l:Int):=rfl;rw[H] at E;refine bM h hd (I G D J E)
       ⟨⟨_,rfl,rfl⟩,W,z,ag,λ_=>⟨u,_,adL,D,by simp only[minus];omega,by simp only[minus];omega,(if f=i.toNat then g else g.map (·.add (i.toNat*u.size))),f-i.toNat,?_,?_,?_,⟨hF.sub _ _,by have:=hZ.sub (tc 0) D u.size;rwa [show plus 0 i=i by simp[plus]] at this⟩,?_⟩⟩
      .have:(minus j i).toNat=j.toNat-i.toNat:=by simp only[minus];omega
       rw[this]
      .simp only[minus];omega
      .omega
      .by_cases v:f=i.toNat
       .exact .inl (by simp only[minus];omega)
       .rcases m4 with ⟨q1,q3⟩|⟨b,q1,Y⟩
        .exact .inl ag
        .refine .inr ⟨b,f,q1,?_⟩;rw[aJ v,Y];simp only[PK,addr_add,BD]
     .cases r
   .cases o
  .cases F
 ·
  rename_i m u c aM s q O Q;rw[Q] at hv;obtain⟨hlm,o⟩:=ay F;simp at hlm;obtain⟨W,z,C⟩:=kQ hlm.1;split at o
  .rename_i i j G;obtain⟨A,S⟩:=cQ o;obtain rfl:=aF S;obtain⟨D,J,E⟩:=jU A;obtain⟨Z,U,V,k3⟩:=(hc.T _ _ O).arr;obtain⟨b,f,hl,p⟩:=bk z C hv.2;obtain p:a.eval x=.pointer (aa ⟨b,eg _,af⟩):=by simpa using p
   have y:=qW (P:=P) h G false m m rfl (bX _) D J E;refine bM h hd (x:=.slice (aa<|if m=i.toNat then⟨b,eg (s::q),af⟩ else(⟨b,eg (s::q),af⟩:Addr).add (i.toNat*u.size)) (j.toNat-i.toNat) (m-i.toNat)) ?_
    ⟨⟨_,rfl,rfl⟩,W,z,ag,λ_=>⟨aS,b,f,hl,D,by simp only[minus];omega,by simp only[minus];omega,aa (if m=i.toNat then⟨b,eg (s::q),af⟩ else(⟨b,eg (s::q),af⟩:Addr).add (i.toNat*u.size)),m-i.toNat,?_,?_,?_⟩⟩
   .rw[p];simp only[Instr.sliceAt,Sem.run_bind,run_underlying U,Result.andThen_ok,Instr.sureAddr,Sem.run_pure,y,V.sizeOf w]
   .have:(minus j i).toNat=j.toNat-i.toNat:=by simp only[minus];omega
    rw[this]
   .simp only[minus];omega
   .by_cases v:m=i.toNat
    .exact .inl (by simp only[minus];omega)
    .refine .inr ?_;rw[aJ v];simp only[addr_add]
  .cases o
 ·
  rename_i m u c aM O Q;rw[Q] at hv;split at F
  .rename_i W z;obtain⟨t,o⟩:=ay F;simp only[gz,DF] at t;have C:=gA t.1;split at o
   .rename_i n e l hbv;obtain⟨hq,r⟩:=ay o;simp only[gz] at hq;obtain rfl:=gA hq.1.1;obtain rfl:=Ty.eq_of_beq hq.1.2;have aoc:=JH hq.2;split at r
    .rename_i i j G;obtain⟨A,S⟩:=cQ r;obtain rfl:=aF S;obtain⟨D,J,E⟩:=jU A;obtain⟨Z,U,V,k3⟩:=(hc.T _ _ O).arr;obtain⟨b,f,hl,p⟩:=bk z C hv.2;obtain p:a.eval x=.pointer _:=by simpa [eg] using p
     have y:=qW (P:=P) h G false m m rfl (bX _) D J E;have hF:wV (aa<|if m=i.toNat then⟨b,0,af⟩ else(⟨b,0,af⟩:Addr).add (i.toNat*u.size)) (m-i.toNat):=by
      refine .inr ?_;split
      .exact⟨b,0,rfl⟩
      .exact⟨b,0+i.toNat*u.size,by rw[addr_add]⟩
     refine bM h hd (x:=.slice (aa<|if m=i.toNat then⟨b,0,af⟩ else(⟨b,0,af⟩:Addr).add (i.toNat*u.size)) (j.toNat-i.toNat) (m-i.toNat)) ?_
      ⟨⟨_,rfl,rfl⟩,W,z,ag,λ_=>⟨u,m,Box.r8 t.2 hbv,D,by simp only[minus];omega,by simp only[minus];omega,aa (if m=i.toNat then⟨b,0,af⟩ else(⟨b,0,af⟩:Addr).add _),m-i.toNat,?_,?_,?_,⟨hF,λ_ G=>by rw[t.2] at G;cases G⟩,?_⟩⟩
     .rw[p];simp only[Instr.sliceAt,Sem.run_bind,run_underlying U,Result.andThen_ok,Instr.sureAddr,Sem.run_pure,y,V.sizeOf w]
     .have:(minus j i).toNat=j.toNat-i.toNat:=by simp only[minus];omega
      rw[this]
     .simp only[minus];omega
     .simp only[maxLen];omega
     .by_cases v:m=i.toNat
      .exact .inl (by simp only[minus];omega)
      .refine .inr ⟨b,f,hl,?_⟩;rw[aJ v];simp only[addr_add,BD]
    .cases r
   .cases o
  .cases F
 .cases F
end
end Go.Ge
namespace Go.Ge
open RowKit
section
variable {P:Program} {B:BT} {N:Nat} {γ:Gh} {σ aQ:St} {a:Act} {w:World} {d:Option Nat} {cx:Ctx}
def bH.flat{w w' I I'}:∀{t x cs},t.flat=true->bH w I t x cs->bH w' I' t x cs:=by
 intro t;induction t with
 | int k=>intro x cs _ h;exact h
 | bool=>intro x cs _ h;exact h
 | str=>intro x cs _ h;exact h
 | slice e p=>intro x cs f;cases f
 | arr n e p=>intro x cs f h;exact⟨h.1,h.2.1,λi y q=>p f (h.2.2 i y q)⟩
 | pair a b g j =>
   intro x cs f h;simp only[Ty.flat,gz] at f;obtain⟨s,v,A,l,m⟩:=h;exact⟨s,v,A,g f.1 l,j f.2 m⟩
 | unit=>intro x cs _ h;exact h
 | alt u a r g o =>
   intro x cs f h;simp only[Ty.flat,gz] at f;rcases x with y|z
   .obtain⟨l,c,m,C⟩:=h;exact⟨l,c,m,g f.1 C⟩
   .exact o f.2 h
 | BM=>intro x cs _ h;exact h
def BW(w:World)(I:Nat->Nat->Prop)(e:Ty)(l:List e.den)(v:Value):Prop :=
 (l=[]/\∃f b,v=.slice f 0 b/\b<=maxLen/\wV f b) \/
 ∃g h b,v=.slice (aa ⟨g,h,af⟩) l.length b/\l.length<=b/\b<=maxLen /\
  ∀(i:Nat) (x:e.den),l[i]?=aa x->∃k:List Value,k.length=e.size /\
   (∀(j:Nat) c,k[j]?=aa c->w.cell? ⟨g,h+i*e.size+j,af⟩=aa c)/\bH w I e x k
def Aq{I e}{l:List e.den}{blk cur tid k}(m:w.heap[blk]?=aa (.cells cur tid k)){n}(o:n*e.size<=cur.size)
  (h:∀i x,l[i]?=aa x->bH w I e x ((cur.toList.drop<|i*e.size).take e.size)) (p:l.length<=n) lo :
  ∀i x,(l.drop lo)[i]?=aa x->∃b,b.length=e.size /\
   (∀j c,b[j]?=aa c->w.cell? ⟨blk,lo*e.size+i*e.size+j,af⟩=aa c)/\bH w I e x b:=by
 intro i x f;rw[tu] at f;have g:=h _ x f;refine⟨_,g.length,λj c q=>?_,g⟩;rw[cell_of_heap m]
 grind
def ew.row{b bx mem}(h:ew γ mem w b bx){blk cap}(v:γ.loc b=aa (blk,cap)) :
  (∀(e:Ty) (l:List e.den),bx.buf=true->bx.val=.data (.slice e) l->∃c tid f,w.heap[blk]?=aa (.cells c tid f)/\ni c f/\l.length<=cap/\cap<=maxLen/\c.size=cap*e.size/\0<e.size /\
   ∀i x,l[i]?=aa x->bH w γ.I e x ((c.toList.drop<|i*e.size).take e.size)) /\
  (∀n (e:Ty) (l:List e.den),bx.buf=false->bx.val=.data (.arr n e) l->∃c tid f,w.heap[blk]?=aa (.cells c tid f)/\ni c f/\l.length=n/\c.size=n*e.size /\
   ∀i x,l[i]?=aa x->bH w γ.I e x ((c.toList.drop<|i*e.size).take e.size)):=by
 refine⟨λe l o p=>?_,λn e l o p=>?_⟩
 .rw[ew,o] at h;obtain⟨D,E,r,y,s⟩:=h;rw[p] at r;cases r;rcases s with ⟨s,_⟩|⟨g,j,c,tid,f,q,t,u,k,m,z,A,C⟩
  .grind
  .rw[v] at q;obtain⟨rfl,rfl⟩:=eh (aF q);exact⟨c,tid,f,t,u.th,m,z,A,y,C⟩
 .rw[ew,o] at h;obtain⟨g,j,c,tid,f,q,t,u,k,m⟩:=h;rw[p] at m;obtain⟨F,G,H⟩:=m
  grind
def FH{u e l m}(h:toL u e l=aa m):∃q:u=e,m=q▸l:=mn h
def nW{e v l}(g:jx e σ v=aa l) :
  v=.data (.slice e) l\/(v=.pN/\l=[])\/(∃b c f,v=.whole b c/\σ.mem b=aa f/\f.aM=c/\f.buf=true/\f.val=.data (.slice e) l) \/
  ∃b c o n f,v=.part b c o n/\σ.mem b=aa f/\f.aM=c/\((f.buf=true/\∃j:List e.den,f.val=.data (.slice e) j/\l=sub j o n)\/(f.buf=false/\∃(k:Nat) (j:List e.den),f.val=.data (.arr k e) j/\l=sub j o n)):=by
 unfold jx at g;split at g
 .obtain⟨q,rfl⟩:=FH g
  grind
 .exact .inr (.inl ⟨rfl,(aF g).symm⟩)
 .rename_i b c;split at g
  .rename_i f p;cases m:(Nat.beq f.aM c&&f.buf) with
   | false=>rw[m] at g;exact absurd g aS
   | true =>
     rw[m,wP] at g;simp only[gz] at m;split at g
     .rename_i u j h;obtain⟨q,rfl⟩:=FH g;subst q;exact .inr (.inr<|.inl ⟨b,c,f,rfl,p,gA m.1,m.2,h⟩)
     .grind
  .grind
 .rename_i b c o n;split at g
  .rename_i f p;cases m:Nat.beq f.aM c with
   | false=>rw[m] at g;exact absurd g aS
   | true =>
     rw[m] at g;split at g
     .rename_i u j i h;obtain⟨q,rfl⟩:=FH g;subst q;exact .inr (.inr<|.inr ⟨b,c,o,n,f,rfl,p,gA m,.inl ⟨i,j,h,rfl⟩⟩)
     .rename_i r u j i h;obtain⟨q,rfl⟩:=FH g;subst q;exact .inr (.inr<|.inr ⟨b,c,o,n,f,rfl,p,gA m,.inr ⟨i,r,j,h,rfl⟩⟩)
     .grind
  .grind
 .grind
def KI{α}{l:List α}{b n:Int}(c:0<=b)(e:0<=n)(f:b+n<=l.length):(sub l b n).length=n.toNat:=by
 simp only[sub,dk,qU];omega
def tC(M:bC B γ σ.mem w){e v val l}(O:cu γ σ.mem w v .val [val])(hl:jx e σ v=aa l):BW w γ.I e l val:=by
 rcases nW hl with rfl|⟨rfl,rfl⟩|⟨b,R,E,rfl,s,p,f,g⟩|⟨b,R,z,n,E,rfl,s,p,S⟩
 .obtain⟨cs,F,r⟩:=ej.1 O;rcases F with ⟨⟨o,F⟩,T⟩|⟨j,U,h,F,T,h3,h4⟩
  .exact .inl ⟨T,o,0,by rw[r,F];rfl,pF _,.inl rfl⟩
  .refine .inr ⟨j,U,h,by rw[r,F];rfl,T,h3,λi x A=>?_⟩
   grind
 .obtain rfl:val=_:=by simpa [cu] using O
  exact .inl ⟨rfl,af,0,rfl,pF _,.inl rfl⟩
 .obtain⟨e',n',V,t,u⟩:=bk s p O.2;rw[Box.dV V g] at t;obtain⟨rfl,rfl⟩:=eh (aF t);rcases u with ⟨u,C⟩|⟨j,h,u,C⟩
  .obtain rfl:val=_:=by simpa using C
   have G:=M.boxes b E s;rw[ew,V] at G;obtain⟨e2,l2,W,j2,X⟩:=G;rw[g] at W;cases W;rcases X with ⟨_,j4⟩|⟨_,_,_,_,_,X,_⟩
   .exact .inl ⟨j4,af,0,rfl,pF _,.inl rfl⟩
   .grind
  .obtain rfl:val=_:=by simpa using C
   obtain⟨H,tid,Y,J,Z,D,q4,q5,q6,K⟩:=((M.boxes b E s).row u).1 _ l V g;refine .inr ⟨j,0,h,rfl,D,q4,λi x A=>?_⟩;have:=Aq J ag K D 0 i x A
   grind
 .obtain⟨e',k,t,u,C,g5,o,h,g6,g7,Q,gF,q⟩:=bk s p O.2;obtain rfl:val=_:=by simpa using g6
  rcases S with ⟨f,L,g,rfl⟩|⟨f,k0,L,g,rfl⟩
  .rw[Box.dV f g] at t;obtain⟨rfl,rfl⟩:=eh (aF t);have hlen:=KI u C g5;rcases q with q|⟨j,c,q,y⟩
   .subst q;exact .inl ⟨by simp[sub],o,h,rfl,Q,gF.1⟩
   .obtain⟨H,tid,Y,J,Z,D,q4,q5,q6,K⟩:=((M.boxes b E s).row q).1 _ L f g;refine .inr ⟨j,z.toNat*e.size,h,by rw[y,hlen],by rw[hlen];exact g7,Q,λi x A=>?_⟩;have m:((List.drop z.toNat L).take n.toNat)[i]?=aa x:=A;rw[jq] at m;split at m
    .exact Aq J ag K D z.toNat i x m
    .grind
  .rw[Box.r8 f g] at t;obtain⟨rfl,rfl⟩:=eh (aF t);rcases q with q|⟨j,c,q,y⟩
   .subst q;exact .inl ⟨by simp[sub],o,h,rfl,Q,gF.1⟩
   .obtain⟨H,tid,Y,J,Z,D,q5,K⟩:=((M.boxes b E s).row q).2 _ _ L f g;have hlen:=KI u C (by rw[D];exact g5);refine .inr ⟨j,z.toNat*e.size,h,by rw[y,hlen],by rw[hlen];exact g7,Q,λi x A=>?_⟩;have m:((List.drop z.toNat L).take n.toNat)[i]?=aa x:=A;rw[jq] at m;split at m
    .exact Aq J (n:=k0) ag K ag z.toNat i x m
    .grind
def Ex{I e blk}:∀{l:List e.den} {off},(∀i x,l[i]?=aa x->∃f,f.length=e.size /\
   (∀j c,f[j]?=aa c->w.cell? ⟨blk,off+i*e.size+j,af⟩=aa c)/\bH w I e x f) ->
  ∃b:List Value,b.length=l.length*e.size/\(∀j c,b[j]?=aa c->w.cell? ⟨blk,off+j,af⟩=aa c)/\(∀c∈b,c.oneCell'=true) /\
   ∀i x,l[i]?=aa x->bH w I e x ((b.drop<|i*e.size).take e.size):=by
 intro l;induction l with
 | nil=>intro off h;exact⟨[],aS,aS,aS,aS⟩
 | cons m r n =>
   intro off h;obtain⟨f,s,t,o⟩:=h 0 m rfl;obtain⟨b,u,v,y,z⟩:=n (off:=off+e.size) λi x k=>by
    obtain⟨p,A,C,D⟩:=h (i+1) x (by simpa using k)
    grind
   refine⟨f++b,by rw[jt,iE,Hf];omega,λj c q=>?_,λc g=>?_,λi x k=>?_⟩
   .rw[Rb] at q
    grind
   .rcases Oi.1 g with g|g
    .exact o.one c g
    .grind
   .cases i with
    | zero =>
      grind
    | succ i =>
      rw[Hf,Zb,<-Af]
      grind
def FI(h:dm B N γ σ a w){b g e n}(p:σ.mem b=aa g)(m:g.row=aa (e,n))(f:freeze σ b=aa aQ) :
  ∃bz,dm B N bz aQ a w/\Ext B γ σ.mem w bz aQ.mem w/\bz.loc=γ.loc/\∀i k j,γ.loc b=aa (i,k)->j<n*e.size->bz.I i j:=by
 obtain⟨m1,q⟩:=h.ok.freeze p m;have r:aQ={ bb:=σ.bb,mem:=dd σ.mem b { g with ro:=true } }:=by
  unfold freeze at f;rw[p] at f;cases l:g.ro with
  | true =>
    simp only[l,wP,Lf] at f;subst f;have:dd σ.mem b { g with ro:=true }=σ.mem:=by
     funext c;by_cases e:c=b
     .subst e;rw[bB,p];cases g;subst l;rfl
     .rw[aZ _ e]
    rw[this]
  | false =>
    simp only[l] at f;cases o:g.lk with
    | true=>simp[o] at f
    | false=>simp only[o,BF,Lf] at f;subst f;rfl
 subst r;exact⟨_,h.go q m1,q,rfl,λi k j s t=>.inr ⟨⟨k,s⟩,t⟩⟩
def BW.data{g:Gh}{e l val}(h:BW w γ.I e l val)(s:∀b o,γ.I b o->g.I b o)
  (t:∀f off cap,val=.slice (aa ⟨f,off,af⟩) l.length cap->∀j,j<l.length*e.size->g.I f (off+j)):bH w g.I (.slice e) l [val]:=by
 rcases h with ⟨rfl,k,cap,m,p,q⟩|⟨f,off,cap,m,p,q,u⟩
 .rcases q with rfl|⟨f,off,rfl⟩
  .exact .inl ⟨⟨k,by rw[m]⟩,rfl⟩
  .exact .inr ⟨f,off,cap,by rw[m];rfl,pF _,p,λi x n=>by cases n⟩
 .refine .inr ⟨f,off,cap,by rw[m],p,q,λi x n=>?_⟩;obtain⟨es,v,y,z⟩:=u i x n;refine⟨es,v,λj c r=>⟨y j c r,?_⟩,bH.mono s (λ_ _ _=>rfl) z⟩;have A:j<e.size:=by have:=(hR.1 r).1;omega
  have:_*e.size<=l.length*e.size:=gN _ ((hR.1 n).1);rw[Hf] at this;rw[En];exact t f off cap m _ ag
def FJ(h:dm B N γ σ a w){e v val l}(t:cu γ σ.mem w v .val [val])(H:jx e σ v=aa l)(z:jj σ v=aa aQ) :
  ∃bz,dm B N bz aQ a w/\Ext B γ σ.mem w bz aQ.mem w/\bH w bz.I (.slice e) l [val]:=by
 have o:=tC h.ok t H;rcases nW H with rfl|⟨rfl,rfl⟩|⟨b,A,J,rfl,q,m,f,i⟩|⟨b,A,V,n,J,rfl,q,m,C⟩
 .obtain rfl:=aF z;obtain⟨W,K,g⟩:=ej.1 t;have:W=[val]:=by
   obtain⟨c,rfl⟩:=YU.1 K.length;rw[g];rfl
  exact⟨γ,h,Ext.refl _ _ _ _,by rw[<-this];exact K⟩
 .obtain rfl:=aF z;obtain rfl:val=_:=by simpa [cu] using t
  exact⟨γ,h,Ext.refl _ _ _ _,.inl ⟨⟨af,rfl⟩,rfl⟩⟩
 .obtain⟨bz,D,u,X,Y⟩:=FI h q (Box.dV f i) z;refine⟨bz,D,u,o.data u.I λx E F g j Z=>?_⟩;obtain⟨L,n',g1,r,G⟩:=bk q m t.2
  grind
 .obtain⟨L,k,r,G,M,O,Q,F,g6,g7,g8,gF,p⟩:=bk q m t.2;obtain rfl:val=_:=by simpa using g6
  have hlk:e=L/\l.length=n.toNat:=by
   rcases C with ⟨f,R,i,rfl⟩|⟨f,k0,R,i,rfl⟩
   .rw[Box.dV f i] at r;obtain⟨rfl,rfl⟩:=eh (aF r);exact⟨rfl,KI G M O⟩
   .rw[Box.r8 f i] at r;obtain⟨rfl,rfl⟩:=eh (aF r);rcases p with p|⟨x,c,p,y⟩
    .subst p;exact⟨rfl,by simp[sub]⟩
    .obtain⟨cur,tid,fr,s,q2,S,q5,q7⟩:=((h.ok.boxes b J q).row p).2 _ _ R f i;exact⟨rfl,KI G M (by rw[S];exact O)⟩
  obtain⟨bz,D,u,X,Y⟩:=FI h q r z;refine⟨bz,D,u,o.data u.I λx E T g j Z=>?_⟩;rcases p with p|⟨U,c,p,y⟩
  .grind
  .injection g with s q2 S
   rw[y] at s;injection s with s
   injection s with s q4
   have:(V.toNat+n.toNat)*e.size<=k*e.size:=gN _ ag
   grind
def DY{e v l b}(h:jx e σ v=aa l)(k:freeze σ b=aa aQ):jx e aQ v=aa l:=by
 have z:∀c j,σ.mem c=aa j->∃r,aQ.mem c=aa { j with ro:=r }:=by
  intro c j q;unfold freeze at k;split at k
  .rename_i p t;cases m:p.ro with
   | true=>simp only[m,wP,Lf] at k;subst k;exact⟨j.ro,q⟩
   | false =>
     cases o:p.lk with
     | true=>simp[m,o] at k
     | false =>
       simp only[m,o,BF,Lf] at k;subst k;by_cases e:c=b
       .subst e;rw[t] at q;obtain rfl:=aF q;exact⟨true,by simp[St.cr,o]⟩
       .exact⟨j.ro,by simp[St.cr,iJ e,q]⟩
  .cases k
 rcases nW h with rfl|⟨rfl,rfl⟩|⟨c,u,j,rfl,x,g,f,i⟩|⟨c,u,C,n,j,rfl,x,g,y⟩
 .exact h
 .rfl
 .obtain⟨r,s⟩:=z c j x;simp only[jx,s,g,f,i,adm];simp[toL,Ty.beq_refl]
 .obtain⟨r,s⟩:=z c j x;rcases y with ⟨f,A,i,rfl⟩|⟨f,D,A,i,rfl⟩
  .simp only[jx,s,g,f,i,adm,wP];simp[toL,Ty.beq_refl]
  .simp only[jx,s,g,f,i];simp[toL,Ty.beq_refl]
def FK{s r p q x}(h:td σ (.pair s r) (.mix p q)=aa x):∃(y:s.den) (z:r.den),td σ s p=aa y/\td σ r q=aa z/\x=(y,z):=by
 replace h:(match td σ s p,td σ r q with
  | some x,aa y=>aa _
  | _,_=>af)=aa x:=h
 grind
def PU{s r p q y z}(b:td σ s p=aa y)(c:td σ r q=aa z):td σ (.pair s r) (.mix p q)=aa ((y,z):(Ty.pair s r).den):=by
 show(match td σ s p,td σ r q with
  | some x,aa y=>aa _
  | _,_=>af)=aa _
 grind
def yf{p q}(h:jj σ (.mix p q)=aa aQ):∃bL,jj σ p=aa bL/\jj bL q=aa aQ:=by
 unfold jj at h
 grind
def rm{t}:∀{x},td σ t .uP=aa x->(∀w I,bH w I t x [.nilIface])/\(∀τ,td τ t .uP=aa x)/\cZ t [.nilIface]=.nilIface/\t.isAgg=false:=by
 induction t with
 | alt u a r g c =>
   intro x h;have h:(match td σ r .uP with|some x=>aa (aB x)|none=>af)=aa x:=h;cases f:td σ r .uP with
   | none=>rw[f] at h;cases h
   | some y =>
     rw[f] at h;obtain rfl:=aF h;obtain⟨i,l,j,k⟩:=c f;refine⟨λw I=>i w I,λτ=>?_,j,k⟩;show(match td τ r .uP with|some x=>aa _|none=>af)=_
     grind
 | BM=>intro x h;exact⟨λw I=>rfl,λτ=>rfl,rfl,rfl⟩
 | slice e=>intro x h;cases h
 | pair a b=>intro x h;cases h
 | _=>intro x h;cases h
def Ud:∀{v t x σ aQ u},td σ t v=aa x->jj σ u=aa aQ->td aQ t v=aa x:=by
 have one:∀{u e v l σ aQ},jx e σ v=aa l->jj σ u=aa aQ->jx e aQ v=aa l:=by
  intro u;induction u with
  | mix p q f g =>
    intro e v l σ aQ h c;simp only[jj] at c
    grind
  | whole b aM=>intro e v l σ aQ h c;exact DY h c
  | part b aM lo n=>intro e v l σ aQ h c;exact DY h c
  | _=>intro e v l σ aQ h c;obtain rfl:=aF c;exact h
 intro v;induction v with
 | data u y =>
   intro t x σ aQ u h c;cases t with
   | slice e=>exact one h c
   | _=>exact h
 | mix p q f g =>
   intro t x σ aQ u h c;cases t with
   | pair s r =>
     obtain⟨y,z,i,j,rfl⟩:=FK h;exact PU (f i c) (g j c)
   | slice e=>exact one h c
   | _=>cases h
 | uP=>intro t x σ aQ u h c;exact(rm h).2.1 _
 | _ =>
   intro t x σ aQ u h c;cases t with
   | slice e=>exact one h c
   | _=>cases h
def IY{γ mem v cs}(h:cu γ mem w v .cells cs)(b:dS v=1):∃c,cs=[c]:=by
 have:=h.length;rw[b] at this;exact YU.1 this
def W2:∀{v t x cs σ aQ γ a},dm B N γ σ a w->cu γ σ.mem w v .cells cs->td σ t v=aa x->jj σ v=aa aQ ->
  ∃bz,dm B N bz aQ a w/\Ext B γ σ.mem w bz aQ.mem w/\bH w bz.I t x cs:=by
 have A:∀{v e l cs σ aQ γ a},dS v=1->(∀c,cu γ σ.mem w v .cells [c]->cu γ σ.mem w v .val [c])->dm B N γ σ a w->cu γ σ.mem w v .cells cs->jx e σ v=aa l->jj σ v=aa aQ ->
   ∃bz,dm B N bz aQ a w/\Ext B γ σ.mem w bz aQ.mem w/\bH w bz.I (.slice e) l cs:=by
  intro v e l cs σ aQ γ a C m h i f j;obtain⟨c,rfl⟩:=IY i C;exact FJ h (m c i) f j
 intro v;induction v with
 | data u y =>
   intro t x cs σ aQ γ a h i f j;obtain rfl:=aF j;have key:(∃q:u=t,x=q▸y):=by
    cases t with
    | slice e =>
      rcases nW f with g|⟨g,_⟩|⟨_,_,_,g,_⟩|⟨_,_,_,_,_,g,_⟩
      .injection g with L M;subst L;exact⟨rfl,(eq_of_heq M).symm⟩
      .cases g
      .cases g
      .cases g
    | _=>exact Ty.lO f
   obtain⟨q,D⟩:=key;subst q;subst D;exact⟨γ,h,Ext.refl _ _ _ _,i⟩
 | mix p q E F =>
   intro t x cs σ aQ γ a h i f j;cases t with
   | pair s r =>
     obtain⟨O,Q,rfl,C,R⟩:=i;obtain⟨y,z,S,D,rfl⟩:=FK f;obtain⟨bL,o,G⟩:=yf j;obtain⟨T,U,K,V⟩:=E h C S o;obtain⟨H,W,J,X⟩:=F U (R.ext K) (Ud D o) G;exact⟨H,W,K.trans J,O,Q,rfl,bH.mono J.I J.cells V,X⟩
   | slice e=>exact absurd f cg
   | _=>cases f
 | pN =>
   intro t x cs σ aQ γ a h i f j;cases t with
   | slice e=>exact A (v:=.pN) rfl (λc k=>k) h i f j
   | _=>cases f
 | whole b aM =>
   intro t x cs σ aQ γ a h i f j;cases t with
   | slice e=>exact A (v:=.whole b aM) rfl (λc k=>k) h i f j
   | _=>cases f
 | part b aM lo n =>
   intro t x cs σ aQ γ a h i f j;cases t with
   | slice e=>exact A (v:=.part b aM lo n) rfl (λc k=>k) h i f j
   | _=>cases f
 | uP =>
   intro t x cs σ aQ γ a h i f j;obtain rfl:=aF j;obtain rfl:cs=[.nilIface]:=i;exact⟨γ,h,Ext.refl ..,(rm f).1 _ _⟩
 | _ =>
   intro t x cs σ aQ γ a h i f j;cases t with
   | slice e=>exact absurd f cg
   | _=>cases f
def nX{t x v val}(h:dm B N γ σ a w)(f:cu γ σ.mem w v .val [val])(g:BN σ t v=aa (x,aQ)) :
  ∃bz,dm B N bz aQ a w/\Ext B γ σ.mem w bz aQ.mem w/\cu bz aQ.mem w (.data t x) .val [val]:=by
 unfold BN at g;split at g
 .rename_i u y;split at g
  .rename_i H o;obtain⟨rfl,rfl⟩:=eh (aF g);obtain⟨q,z⟩:=Ty.lO o;subst q;subst z;exact⟨γ,h,Ext.refl _ _ _ _,f⟩
  .cases g
 .split at g
  .rename_i y bL c l;obtain⟨rfl,rfl⟩:=eh (aF g);cases v with
   | data u A=>rename_i m;exact absurd rfl (m u A)
   | mix p q =>
     obtain⟨C,D,E,F,G⟩:=f;obtain rfl:val=_:=by simpa using E
     obtain⟨bz,i,j,k⟩:=W2 h (show cu γ σ.mem w (.mix p q) .cells _ from⟨C,D,rfl,F,G⟩) c l;refine⟨bz,i,j,_,k,?_⟩;cases t with
     | pair s r=>rfl
     | slice e=>exact absurd c cg
     | _=>cases c
   | pN =>
     cases t with
     | slice e=>obtain⟨bz,i,j,k⟩:=FJ h f c l;exact⟨bz,i,j,_,k,rfl⟩
     | _=>cases c
   | whole b aM =>
     cases t with
     | slice e=>obtain⟨bz,i,j,k⟩:=FJ h f c l;exact⟨bz,i,j,_,k,rfl⟩
     | _=>cases c
   | part b aM lo n =>
     cases t with
     | slice e=>obtain⟨bz,i,j,k⟩:=FJ h f c l;exact⟨bz,i,j,_,k,rfl⟩
     | _=>cases c
   | uP =>
     obtain rfl:=aF l;obtain f:[val]=[Value.nilIface]:=f;obtain rfl:val=.nilIface:=by simpa using f
     exact⟨γ,h,Ext.refl ..,[.nilIface],(rm c).1 _ _,by rw[(rm c).2.2.1]⟩
   | _ =>
     cases t with
     | slice e=>exact absurd c cg
     | _=>cases c
  .cases g
end
end Go.Ge
namespace Go.Ge
open RowKit
section
variable {P:Program} {B:BT} {N:Nat} {γ:Gh} {σ aQ:St} {a:Act} {w:World} {d:Option Nat} {cx:Ctx}
def W3{b:Box}{k c v f}(l:b.buf=false)(m:b.val=v)(h:(Eo v k f).run=aa c):({ b with val:=c }:Box).row=b.row:=by
 obtain⟨i,tid,o,s,u,r⟩:=b;subst l;subst m;cases i with
 | data t x =>
   obtain⟨y,j,g⟩:=bind_some h;obtain rfl:=aF g;cases t with
   | arr n e=>cases k<;>exact absurd j cg
   | _=>rfl
 | mix p q =>
   cases k with
   | zero =>
     obtain⟨y,j,g⟩:=bind_some h;obtain rfl:=aF g;rfl
   | succ k =>
     obtain⟨y,j,g⟩:=bind_some h;obtain rfl:=aF g;rfl
 | _=>exact absurd h cg
def agv{bx:Box}{e:Ty}{l:List e.den}{i y}(b:bx.buf=true)(c:bx.val=.data (.slice e) l):({ bx with val:=.data (.slice e) (ky l i y) }:Box).row=bx.row:=by
 rw[Box.dV b c,Box.dV (bx:={ bx with val:=.data (.slice e) (ky l i y) }) b rfl];simp[ky]
def IZ{f:Box}{p v c}(h:(Rk f.buf p f.val v).run=aa c)(o:p=[]->f.buf=false->({ f with val:=v }:Box).row=f.row) :
  ({ f with val:=c }:Box).row=f.row:=by
 unfold Rk at h;split at h
 .rename_i b;cases p with
  | nil=>obtain rfl:=aF h;exact o rfl b
  | cons s p =>
    cases s with
    | gB k off=>exact W3 b rfl h
    | idx i size =>
      simp only[Ag] at h;split at h
      .rename_i n e l j;obtain⟨x,q,m⟩:=cd h;obtain⟨z,r,g⟩:=bind_some m;split at g
       .obtain rfl:=aF g;rw[Box.r8 b j];exact Box.r8 b rfl
       .exact absurd g cg
      .exact absurd h cg
 .rename_i b;split at h
  .rename_i i size p e l j;obtain⟨x,q,m⟩:=cd h;obtain⟨z,r,g⟩:=bind_some m;split at g
   .obtain rfl:=aF g;exact agv b j
   .exact absurd g cg
  .exact absurd h cg
def DZ(h:dm B N γ σ a w){b aM p fit u es}(G:(storeAt b aM p fit u σ).run=aa aQ)(Y:cu γ σ.mem w u .cells es)
  (J:∀t,fit t=true->es.length=dS t) (adL:∀A:Box,fit A.val=true->A.buf=false->({ A with val:=u }:Box).row=A.row)
  {blk cap} (H:γ.loc b=aa (blk,cap)) :
  ∃w',(storeCells ⟨blk,eg p,af⟩ es).run P w=.ok () w'/\dm B N γ aQ a w'/\Ext B γ σ.mem w γ aQ.mem w':=by
 unfold storeAt at G;split at G
 case h_2=>exact absurd G cg
 rename_i A hb;obtain⟨hc,hr2⟩:=ay G;simp at hc;obtain⟨⟨akk,hlk⟩,K⟩:=hc;obtain⟨t,hn,hr3⟩:=bind_some hr2;obtain⟨L,hr4⟩:=ay hr3;obtain⟨c,hs,hr5⟩:=bind_some hr4;obtain rfl:=aF hr5;have C:=J t L;have M:=IZ hs λhp g=>by
  subst hp;rw[g] at hn;obtain rfl:=aF hn
  grind
 have m:=h.ok.boxes b A hb;unfold ew at m;have hbb:A.buf=false\/A.buf=true:=by cases A.buf<;>simp
 rcases hbb with g|g
 .rw[g] at m hn hs;obtain⟨O,Q,f,tid,R,Z,h2,E,n,S⟩:=m;rw[H] at Z;obtain⟨rfl,rfl⟩:=eh (aF Z);obtain⟨k1,k2⟩:=yd S hn;have o:eg p+es.length<=f.toList.length:=by rw[C];exact k1
  have T:(ba f.toList (eg p) es).toArray.size=f.size:=by have:=bP o;simpa using this
  obtain⟨m1,U⟩:=h.ok.write hb K H h2 (cur':=(ba f.toList _ es).toArray) T M
   (λw' mem' r hg=>by
    simp only[g];exact⟨blk,cap,_,tid,R,H,hg,E.same T,n,by simpa using An (S.ext r) hn hs (Y.ext r) C⟩)
  exact⟨_,(dx (P:=P) blk _ tid R es 0 f w h2 E (by simpa using o) λv hv=>Y.one v hv),h.go U m1,U⟩
 .rw[g] at m hn hs;obtain⟨e,l,Z,h2,E⟩:=m;rw[Z] at hn hs;rcases E with ⟨E,_⟩|⟨O,Q,f,tid,R,E,S,h5,n,h6,h7,h8,h9⟩
  .grind
  .rw[H] at E;obtain⟨rfl,rfl⟩:=eh (aF E);cases p with
   | nil=>cases hn
   | cons s p =>
     cases s with
     | gB k off=>cases hn
     | idx i size =>
       obtain⟨hsb,hn2⟩:=ay hn;obtain⟨x,r,V⟩:=cd hn2;obtain⟨x',hx',hs2⟩:=cd hs;obtain rfl:x=x':=aF (r.symm.trans hx');obtain⟨z,hq,D⟩:=bind_some hs2;cases hz:toS e z with
       | none=>rw[hz] at D;cases D
       | some y =>
         rw[hz] at D;obtain rfl:=aF D;obtain⟨h0,W⟩:=uT r;have G:=h9 _ x W;have hi:=(hR.1 W).1;have hm2:(i.toNat+1)*e.size<=cap*e.size:=gN _ ag;rw[Hf] at hm2;have X:cu γ σ.mem w (.data e x) .cells _:=G;obtain⟨k1,k2⟩:=yd X V;rw[G.length] at k1;have hcs:f.toList.length=cap*e.size:=by simpa using h8
         have F:eg (.idx i size::p)=i.toNat*e.size+eg p:=by simp only[eg,(gA hsb)]
         have o:eg (.idx i size::p)+es.length<=f.toList.length:=by rw[F];omega
         have q:(ba f.toList (eg (.idx i size::p)) es).toArray.size=f.size:=by have:=bP o;simpa using this
         obtain⟨m1,U⟩:=h.ok.write hb K H S (cur':=(ba f.toList _ es).toArray) q M
          (λw' mem' r hg=>by
           simp only[g];refine⟨e,_,rfl,h2,.inr ⟨blk,cap,_,tid,R,H,hg,h5.same q,n,gi (DT Y7) h6,h7,by rw[q];exact h8,?_⟩⟩
           .have hzz:=KH hz (An (X.ext r) V hq (Y.ext r) C);have:=LB rfl (by rw[hcs];exact gN _ h6)
             (λj x hj=>bH.mono r.I r.cells (h9 j x hj)) hi hzz
            rw[(uc f.toList _ _ e.size es (by rw[C];exact k1) ag),<-F] at this;exact this)
         exact⟨_,(dx blk _ tid R es 0 f w S h5.th (by simpa using o) λv hv=>Y.one v hv),h.go U m1,U⟩
def PV{mem}:∀{t x cs},bH w γ.I t x cs->cu γ mem w (TY t x) .cells cs:=by
 intro t;induction t with
 | pair a b f c=>intro x cs h;obtain⟨g,i,e,j,k⟩:=h;exact⟨g,i,e,j,c k⟩
 | _=>intro x cs h;exact h
def Hr{mem v cs}(h:cu γ mem w v .cells cs):cu γ mem w (ads v) .cells cs:=by
 cases v with
 | data t x=>exact PV h
 | _=>exact h
def Ue{bx:Box}(e:bx.buf=false)(c:adu bx.val=true):bx.row=none:=by
 unfold Box.row;rw[e];obtain⟨b,tid,f,h,i,g⟩:=bx;cases b with
 | data t x=>cases t<;>first|rfl|cases c
 | mix p q=>rfl
 | _=>cases c
def On(h:dm B N γ σ a w){b aM p n u es}(q:(tY b aM p n u σ).run=aa aQ)(E:cu γ σ.mem w u .cells es)
  (i:es.length=n) {blk cap} (r:γ.loc b=aa (blk,cap)) :
  ∃w',(storeCells ⟨blk,eg p,af⟩ es).run P w=.ok () w'/\dm B N γ aQ a w'/\Ext B γ σ.mem w γ aQ.mem w':=by
 unfold tY at q;split at q
 case h_2=>exact absurd q cg
 rename_i bx F;obtain⟨G,s⟩:=ay q;simp at G;obtain⟨⟨⟨⟨H,T⟩,t⟩,e⟩,x⟩:=G;obtain⟨U,hn,y⟩:=bind_some s;obtain⟨j,z⟩:=ay y;obtain⟨c,hs,A⟩:=bind_some z;obtain⟨C,D⟩:=ay A;obtain rfl:=aF D;have k:=i.trans (gA j).symm;have g:=h.ok.boxes b bx F;unfold ew at g;rw[e] at g;obtain⟨I,J,f,tid,K,L,M,O,l,Q⟩:=g;rw[r] at L;obtain⟨rfl,rfl⟩:=eh (aF L);obtain⟨V,Y⟩:=yd (Hr Q) hn;have m:eg p+es.length<=f.toList.length:=by rw[k];exact V
 have o:(ba f.toList (eg p) es).toArray.size=f.size:=by have:=bP m;simpa using this
 obtain⟨m1,R⟩:=h.ok.write F t r M (cur':=(ba f.toList _ es).toArray) o ((Ue (bx:={ bx with val:=c }) e C).trans (Ue e x).symm)
  (λw' mem' S W=>by
   simp only[e];exact⟨blk,cap,_,tid,K,r,W,O.same o,l,by simpa using An (Hr<|Q.ext S) hn hs (E.ext S) k⟩)
 exact⟨_,(dx blk _ tid K es 0 f w M O (by simpa using m) λv X=>E.one v X),h.go R m1,R⟩
def BX{ty blk off n v w'}(b:(Go.sizeOf ty).run P w=.ok n w)(e:v.cells.toList.length=n)(c:(storeCells ⟨blk,off,af⟩ v.cells.toList).run P w=.ok () w') :
  (Instr.storeAt ty (.pointer<|some ⟨blk,off,af⟩) v).run P w=.ok () w':=by
 simp only[Instr.storeAt,Instr.sureAddr,storeVar,Sem.run_bind,Sem.run_pure,Result.andThen_ok,b]
 grind
def JQ(D:fi P cx){bf ty x y}(h:dm B N γ σ a w)(E:(mP cx bf ty (cW σ x) (cW σ y) σ).run=aa aQ) :
  ∃w' bz,(Instr.storeAt ty (a.eval x)<|a.eval y).run P w=.ok () w'/\dm B N bz aQ a w'/\Ext B γ σ.mem w bz aQ.mem w':=by
 have hv:=h.cW x;have hy:=h.cW y;unfold mP at E;split at E
 case h_2=>exact absurd E cg
 rename_i b aM p hx;rw[hx] at hv;split at E
 case h_2=>exact absurd E cg
 rename_i o Z;obtain⟨F,M⟩:=ay E;obtain⟨s,hn,A⟩:=bind_some M;obtain⟨O,Q,hl,l⟩:=bk Z (gA F) hv.2;obtain l:a.eval x=_:=by simpa using l
 rw[l];split at A
 .rename_i u z;obtain⟨r,f⟩:=ay A;have r:=jF r;have hD:=D.T _ _ r;cases R:cU bf 8000000&&adt u _ with
  | true =>
    rw[R] at f;have how:=(Bool.and_eq_true_iff.1 R).2;have m:cu γ σ.mem w (cW σ y) .cells (a.eval y).cells.toList:=by
     refine hy.jS (λu' e=>?_) (λe=>?_)
     .rw[e] at how;cases how
     .rw[e] at how;cases how
    have C:dS (cW σ y)=u.size:=by
     unfold adt at how;split at how
     .rename_i e;rw[e];exact PT how
     .rename_i e;rw[e];exact LH how
     .grind
    have c:(a.eval y).cells.toList.length=u.size:=by rw[m.length,C]
    obtain⟨w',K,G,H⟩:=On h f m c hl;exact⟨w',γ,BX (hD.sizeOf w) c K,G,H⟩
  | false =>
  rw[R] at f;split at f
  .rename_i y0 bL hg;obtain⟨I,s1,s2,s3⟩:=nX h hy hg;obtain⟨cs,L,c2⟩:=s3;obtain S:a.eval y=_:=by simpa using c2
   have U:(a.eval y).cells.toList=cs:=by rw[S];exact ub L
   obtain⟨V,g1,g2,g3⟩:=s2.boxes b o Z;have W:I.loc b=aa (O,Q):=by
    have hv':V.aM=o.aM:=by
     unfold storeAt at f;split at f
     .rename_i bx2 hb2;obtain⟨D,_⟩:=ay f;simp_all
     .grind
    grind
   obtain⟨w',K,G,H⟩:=DZ (P:=P) s1 f L (λs g=>by
    unfold aiC at g;split at g
    .rename_i t q;obtain rfl:=Ty.eq_of_beq g;exact L.length
    .cases g) (λo g i=>by
    unfold aiC at g;split at g
    .rename_i t q J;obtain rfl:=Ty.eq_of_beq g;cases t with
     | arr n e=>rw[Box.r8 i J];exact Box.r8 i rfl
     | _=>unfold Box.row;rw[i,J]
    .cases g) W
   refine⟨w',I,BX (hD.sizeOf w) ?_ ?_,G,s2.trans H⟩
   .rw[U];exact L.length
   .grind
  .exact absurd f cg
 .obtain⟨r,f⟩:=ay A;simp at r;obtain⟨X,k⟩:=r;have key:∀{v},Ah cx ty v=true->isRef v=true->dS v=1/\(Go.sizeOf ty).run P w=.ok 1 w:=by
   intro v j Y;unfold Ah at j;split at j
   .cases Y
   .split at j
    .rename_i e r;exact⟨rfl,(D.T _ _ r).sizeOf w⟩
    .cases j
   .exact⟨rfl,(D.uQ _ j).2.1 w⟩
   .exact⟨rfl,(D.uQ _ j).2.1 w⟩
   .exact⟨rfl,(D.uQ _ j).2.1 w⟩
   .cases j
  obtain⟨j,C⟩:=key X k;have m:cu γ σ.mem w (cW σ y) .cells (a.eval y).cells.toList:=by
   refine hy.jS (λu e=>?_) (λe=>?_)
   .rw[e] at k;cases k
   .rw[e] at k;cases k
  have c:(a.eval y).cells.toList.length=1:=by rw[m.length,j]
  obtain⟨w',K,G,H⟩:=DZ h f m (λs g=>by
   simp at g;rcases g with g|g
   .rw[c,(key g.1 g.2).1]
   .rw[c];cases s<;>first|rfl|cases g) (λo g i=>by
   simp at g;have e1:∀{v} {o:Box},(isRef v=true\/Zf v=true)->o.buf=false->o.val=v->o.row=none:=by
    intro v o j Y h3;unfold Box.row;rw[Y,h3];cases v<;>first|rfl|(rcases j with j|j<;>cases j)
   rw[e1 (g.elim (λq=>.inl q.2) .inr) i rfl];exact e1 (.inl k) i rfl) hl
  exact⟨w',γ,BX C c K,G,H⟩
def tD t v:(newVar t v).run P w=.ok ⟨w.heap.size,0,af⟩ (w.alloc<|.cells v.cells t):=by
 simp[newVar,newRow]
def CZ{mem w' b c cap}:cu (bK γ b<|some (w.heap.size,cap)) (dd mem b c) w' (.ptr b c.aM []) .val [.pointer<|some ⟨w.heap.size,0,af⟩] :=
 ⟨⟨_,rfl,rfl⟩,fY (bB _ _) rfl ⟨w.heap.size,cap,by simp[bK],rfl⟩⟩
def Uf(j:fi P cx){b:TypeId}{nb k t}(h:dm B N γ σ a w)(l:k<N)(m:find cx.T b=aa t)
  (n:(σ.bu (nb+k) (.data t t.zero) 0 false λc σ=>.ret (σ.put k<|.ptr (nb+k) c [])).run=aa aQ) :
  nU P B N γ σ a w (aa k) (Instr.alloc b true<|.tuple #[]) aQ:=by
 obtain⟨c,e,f⟩:=dQ n;obtain rfl:=aF f;obtain⟨z,o,g⟩:=(j.T _ _ m).zero w;obtain⟨m1,i⟩:=h.ok.newVar (v:=.data t t.zero) e b (.inl rfl) (by rw[g];exact jE w γ.I t);refine⟨.pointer _,_,_,?_,h.step i m1 l CZ,i⟩;simp only[Instr.alloc,Sem.run_bind,o,Result.andThen_ok,tD,Sem.run_pure]
def JR(j:fi P cx){b:TypeId}{nb k}(h:dm B N γ σ a w)(l:k<N)(m:cU cx.uQ b=true)
  (n:(σ.bu (nb+k) .undef 0 false λe σ=>.ret (σ.put k<|.ptr (nb+k) e [])).run=aa aQ) :
  nU P B N γ σ a w (aa k) (Instr.alloc b true<|.tuple #[]) aQ:=by
 obtain⟨e,f,g⟩:=dQ n;obtain rfl:=aF g;obtain⟨z,o,c⟩:=(j.uQ _ m).2.2;obtain⟨m1,i⟩:=h.ok.newVar (v:=.undef) f (cs:=z.cells) b (.inl rfl) ⟨z,by cases z<;>first|rfl|(simp[Value.oneCell'] at c),c⟩;refine⟨.pointer _,_,_,?_,h.step i m1 l CZ,i⟩;simp only[Instr.alloc,Sem.run_bind,o,Result.andThen_ok,tD,Sem.run_pure]
def Ug{b aM}:∀{C j σ γ r},bC B γ σ.mem w->(mkObj b aM C j σ).run=aa r ->
  ∃c,bC B c r.2.mem w/\Ext B γ σ.mem w c r.2.mem w/\r.2.bb=σ.bb /\
   ∀bz mem' w',Ext B c r.2.mem w bz mem' w'->(∃bx s u,mem' b=aa bx/\aM<=bx.aM/\bz.loc b=aa (s,u))->cu bz mem' w' r.1 .cells (LA C):=by
 intro C;induction C with
 | nil=>intro j σ γ r h x;obtain rfl:=aF x;exact⟨γ,h,Ext.refl _ _ _ _,rfl,λ_ _ _ _ _=>rfl⟩
 | cons f r z =>
   intro j σ γ q h x;cases f with
   | dat t =>
     obtain⟨y,l,m⟩:=bind_some x;obtain rfl:=aF m;obtain⟨c,n,g,o,p⟩:=z h l;exact⟨c,n,g,o,λbz mem' w' i k=>⟨_,_,rfl,jE _ _ t,p bz mem' w' i k⟩⟩
   | one =>
     obtain⟨y,l,m⟩:=bind_some x;obtain rfl:=aF m;obtain⟨c,n,g,o,p⟩:=z h l;exact⟨c,n,g,o,λbz mem' w' i k=>⟨[.pointer af],_,rfl,rfl,p bz mem' w' i k⟩⟩
   | fnc =>
     obtain⟨y,l,m⟩:=bind_some x;obtain rfl:=aF m;obtain⟨c,n,g,o,p⟩:=z h l;exact⟨c,n,g,o,λbz mem' w' i k=>⟨[.nilFunc],_,rfl,⟨_,rfl,rfl⟩,p bz mem' w' i k⟩⟩
   | self =>
     obtain⟨y,l,m⟩:=bind_some x;obtain rfl:=aF m;obtain⟨c,n,g,o,p⟩:=z h l;refine⟨c,n,g,o,λbz mem' w' i k=>⟨[.pointer af],_,rfl,?_,p bz mem' w' i k⟩⟩;obtain⟨bx,s,u,G,H,I⟩:=k;exact⟨⟨_,rfl,rfl⟩,bx,G,H,λ_=>⟨s,u,I,.inl rfl⟩⟩
   | buf e J =>
     obtain⟨K,D⟩:=ay x;have E:0<e.size:=by simpa using K
     obtain⟨v,A,F⟩:=dQ D;obtain⟨y,l,m⟩:=bind_some F;obtain rfl:=aF m;obtain⟨m1,L⟩:=h.Hq A E;obtain⟨c,n,g,o,p⟩:=z m1 l;refine⟨c,n,L.trans g,o,λbz mem' w' i k=>⟨[.slice af 0 0],_,rfl,?_,p bz mem' w' i k⟩⟩;refine cu.ext (g.trans i) ?_;exact⟨⟨_,rfl,rfl⟩,fY (bB _ _) rfl ⟨e,0,rfl,rfl,.inl ⟨by simp[bK],rfl⟩⟩⟩
def JS(s:fi P cx){b:TypeId}{nb k p}(h:dm B N γ σ a w)(t:k<N)(u:find cx.vO b=aa p)
  (v:((mkObj (nb+k) (KB σ<|nb+k) p 0 σ).bind λr=>r.2.bu (nb+k) r.1 b false λaM σ=>.ret (σ.put k<|.ptr (nb+k) aM [])).run=aa aQ) :
  nU P B N γ σ a w (aa k) (Instr.alloc b true<|.tuple #[]) aQ:=by
 obtain⟨r,x,y⟩:=bind_some v;obtain⟨f,g,i,A,C⟩:=Ug h.ok x;obtain⟨aM,c,j⟩:=dQ y;obtain rfl:=aF j;obtain⟨z,D,l⟩:=aaB (s.vO _ _ u) w;have m:KB σ (nb+k)<=aM:=by
  unfold KB;split
  .rename_i bx n;obtain⟨E,G,H,_⟩:=i.boxes _ bx n
   grind
  .grind
 let bx:Box:={ val:=r.1,tid:=b,buf:=false,ro:=false,lk:=false,aM }
 have q:vD B w (w.alloc<|.cells z.cells b):=(vD.refl _ _).alloc g.base _;have hx:=vQ (L:=aa (w.heap.size,0)) g (bx:=bx) c q (da w _);have o:ew (bK f (nb+k)<|some (w.heap.size,0)) _ _ (nb+k) bx :=
  ⟨w.heap.size,0,z.cells,b,_,by simp[bK],heap_alloc_new w _,uU _,.inr rfl,by
   rw[l];exact C _ _ _ hx ⟨bx,w.heap.size,0,bB _ _,m,by simp[bK]⟩⟩
 refine⟨.pointer<|some ⟨w.heap.size,0,af⟩,_,_,?_,?_,i.trans hx⟩
 .simp only[Instr.alloc,Sem.run_bind,D,Result.andThen_ok,tD,Sem.run_pure]
 .have:=h.step (i.trans hx) (g.add c q (da w _) (λF k e=>by obtain⟨rfl,rfl⟩:=eh (aF e);exact⟨bX _,aS⟩) o) t (CZ);rw[<-A] at this;exact this
def I0{b j v σ r}(c:(oE b [] j v σ).run=aa r):r=(v,σ):=by
 cases v with
 | data t x=>cases t<;>first|(obtain rfl:=aF c;rfl)|cases c
 | _=>cases c
def FL{b j f q v σ r}(h:(oE b (f::q) j v σ).run=aa r) :
  (∃x u y,v=.mix x u/\(oE b q (j+1) u σ).run=aa y/\r=(.mix x y.1,y.2)) \/
  (∃e i u,v=.mix .pN u/\0<e.size/\(σ.bu (b*1000+999-j) (.data (.slice e) []) i true λm σ=>(oE b q (j+1) u σ).bind λx=>.ret (.mix (.whole (b*1000+999-j) m) x.1,x.2)).run=aa r):=by
 cases v with
 | mix a u =>
   cases f with
   | dat t =>
     cases a with
     | data p z =>
       obtain⟨y,k,l⟩:=bind_some h;exact .inl ⟨_,u,y,rfl,k,(aF l).symm⟩
     | _=>cases h
   | one =>
     cases a with
     | uO =>
       obtain⟨y,k,l⟩:=bind_some h;exact .inl ⟨_,u,y,rfl,k,(aF l).symm⟩
     | _=>cases h
   | buf e i =>
     cases a with
     | pN =>
       obtain⟨o,n⟩:=ay h;exact .inr ⟨e,i,u,rfl,by simpa using o,n⟩
     | _=>cases h
   | fnc =>
     cases a with
     | undef =>
       obtain⟨y,k,l⟩:=bind_some h;exact .inl ⟨_,u,y,rfl,k,(aF l).symm⟩
     | fn g c =>
       obtain⟨y,k,l⟩:=bind_some h;exact .inl ⟨_,u,y,rfl,k,(aF l).symm⟩
     | _=>cases h
   | self=>cases a<;>cases h
 | _=>cases f<;>cases h
def adO{c:Nat->Option Box}{v:ch}(g:cu γ c w v .cells [.slice af 0 0]):∀{t:Ty} {k:Nat} {e:Ty},uR t k=aa (.slice e)->cu γ c w (aiD t k v) .cells (e9 t):=by
 intro t;induction t with
 | pair a b i f =>
   intro k e h;cases k with
   | zero =>
     obtain rfl:=aF (show aa a=aa (.slice e) from h);exact⟨[.slice af 0 0],e9 b,rfl,g,Hr (v:=.data b b.zero) (jE w γ.I b)⟩
   | succ k=>exact⟨e9 a,e9 b,rfl,jE w γ.I a,f h⟩
 | _=>intro k e h;cases k<;>cases h
def BZ{e:List Nat}{d:Option Nat}{b:List (Nat×Operand)}{c k:Nat}(h:zeroAt e d b=aa (c,k)):d=aa c/\b=[]:=by
 unfold zeroAt at h;split at h
 .split at h
  .obtain⟨rfl,_⟩:=eh (aF h);exact⟨rfl,rfl⟩
  .cases h
 .cases h
def JT(p:fi P cx){b:TypeId}{nb k bf t}(h:dm B N γ σ a w)(q:k<N)(r:find cx.T b=aa t)
  (j:(wF nb bf k t σ).run=aa aQ):nU P B N γ σ a w (aa k) (Instr.alloc b true<|.tuple #[]) aQ:=by
 unfold wF at j;split at j
 .rename_i e _;obtain⟨x,l⟩:=ay j;have m:0<e.size:=by simpa using x
  obtain⟨v,f,n⟩:=dQ l;obtain⟨m1,s⟩:=h.ok.Hq (tid:=0) f m;obtain⟨y,c,o⟩:=dQ n;obtain rfl:=aF o;obtain⟨i,z,A,G,C,D⟩:=(p.T _ _ r).info;have E:(zeroValue b).run P w=.ok z w:=by simp[zeroValue,typeInfo,A,C]
  have g:cu (bK γ ((nb+k)*1000+999) af) (dd σ.mem ((nb+k)*1000+999) { val:=.data (.slice e) ([]),tid:=0,buf:=true,ro:=false,lk:=false,aM:=v }) w (.whole ((nb+k)*1000+999) v) .cells z.cells.toList:=by
   rw[D];exact⟨⟨_,rfl,rfl⟩,fY (bB _ _) rfl ⟨e,0,rfl,rfl,.inl ⟨by simp[bK],rfl⟩⟩⟩
  obtain⟨F,u⟩:=m1.newVar c b (.inl rfl) g;refine⟨.pointer _,_,_,?_,h.step (s.trans u) F q CZ,s.trans u⟩;simp only[Instr.alloc,Sem.run_bind,E,Result.andThen_ok,tD,Sem.run_pure]
 .exact Uf p h q r j
def Oo{b}:∀{m j v σ γ r cs},bC B γ σ.mem w->cu γ σ.mem w v .cells cs->(oE b m j v σ).run=aa r ->
  ∃c,bC B c r.2.mem w/\Ext B γ σ.mem w c r.2.mem w/\r.2.bb=σ.bb/\cu c r.2.mem w r.1 .cells cs:=by
 intro m;induction m with
 | nil =>
   intro j v σ γ r cs h l n;obtain rfl:=I0 n;exact⟨γ,h,Ext.refl _ _ _ _,rfl,l⟩
 | cons f q G =>
   intro j v σ γ r cs h l n;rcases FL n with ⟨x,u,y,rfl,o,rfl⟩|⟨e,I,u,rfl,J,p⟩
   .obtain⟨s,t,rfl,z,A⟩:=l;obtain⟨c,C,g,D,E⟩:=G h A o;exact⟨c,C,g,D,s,t,rfl,z.ext g,E⟩
   .obtain⟨k,i,F⟩:=dQ p;obtain⟨y,o,K⟩:=bind_some F;obtain rfl:=aF K;obtain⟨s,t,rfl,z,A⟩:=l;obtain⟨m1,H⟩:=h.Hq i J;obtain⟨c,C,g,D,E⟩:=G m1 (A.ext H) o;obtain rfl:s=[.slice af 0 0]:=z;refine⟨c,C,H.trans g,D,[.slice af 0 0],t,rfl,?_,E⟩;refine cu.ext g ?_;exact⟨⟨_,rfl,rfl⟩,fY (bB _ _) rfl ⟨e,0,rfl,rfl,.inl ⟨by simp[bK],rfl⟩⟩⟩
def Oq{elem nb k x j}(h:dm B N γ σ a w)(l:k<N)(m:cW σ x≠.undef)(n:∀u,cW σ x≠.BI u)
  (o:((oE (nb+k) j 0 (cW σ x) σ).bind λr=>r.2.bu (nb+k) r.1 elem false λb σ=>.ret (σ.put k<|.ptr (nb+k) b [])).run=aa aQ) :
  nU P B N γ σ a w (aa k) (Instr.box elem<|a.eval x) aQ:=by
 obtain⟨r,p,q⟩:=bind_some o;obtain⟨s,t,g,v,y⟩:=Oo h.ok ((h.cW x).jS n λe=>absurd e m) p;obtain⟨b,c,f⟩:=dQ q;obtain rfl:=aF f;obtain⟨m1,i⟩:=t.newVar c elem (.inr rfl) y;refine⟨.pointer<|some ⟨w.heap.size,0,af⟩,_,_,?_,?_,g.trans i⟩
 .simp only[Instr.box,Sem.run_bind,tD,Result.andThen_ok,Sem.run_pure]
 .have:=h.step (g.trans i) m1 l CZ;rw[<-v] at this;exact this
def aaG{elem nb k x}(h:dm B N γ σ a w)(i:k<N)(j:cW σ x≠.undef)(l:∀u,cW σ x≠.BI u)
  (m:(σ.bu (nb+k) (cW σ x) 0 false λb σ=>.ret (σ.put k<|.ptr (nb+k) b [])).run=aa aQ) :
  nU P B N γ σ a w (aa k) (Instr.box elem<|a.eval x) aQ:=by
 obtain⟨b,c,f⟩:=dQ m;obtain rfl:=aF f;obtain⟨m1,g⟩:=h.ok.newVar c elem (.inl rfl) ((h.cW x).jS l λe=>absurd e j);refine⟨.pointer _,_,_,?_,h.step g m1 i CZ,g⟩;simp only[Instr.box,Sem.run_bind,tD,Result.andThen_ok,Sem.run_pure]
def agx{mem}:∀{u v k vs},cu γ mem w u .many vs->nth u k=aa v->∃x,vs[k]?=aa x/\cu γ mem w v .val [x]:=by
 intro u;induction u with
 | mix p q e b =>
   intro v k vs h hn;obtain⟨c,r,rfl,f,g⟩:=h;cases k with
   | zero=>obtain rfl:=aF hn;exact⟨c,rfl,f⟩
   | succ k=>obtain⟨x,i,j⟩:=b g hn;exact⟨x,by simpa using i,j⟩
 | _=>intro v k vs h hn;exact absurd hn cg
def Ot{x k vs v}(h:dm B N γ σ a w)(e:∀k,d=aa k->k<N)(f:cW σ x=.BI vs)(g:nth vs k=aa v) :
  nU P B N γ σ a w d (Instr.extract (a.eval x) k) (σ.bt d v):=by
 have hv:=h.cW x;rw[f] at hv;obtain⟨b,c,i⟩:=hv;obtain c:a.eval x=_:=by simpa using c
 obtain⟨y,j,l⟩:=agx i g;refine bM h e ?_ l;rw[c];have:b[k]?=aa y:=by simpa using j
 simp only[Instr.extract,this,Sem.run_pure]
def adP:∀{ops:List Operand} {cs},dm B N γ σ a w->Hj (ops.map<|cW σ)=aa cs->cs.length=ops.length /\
  ∀(i:Nat) b aM,cs[i]?=aa (b,aM)->nT σ.mem b aM λ_=>∃c g,γ.loc b=aa (c,g)/\(ops.map a.eval)[i]?=aa (.pointer<|some ⟨c,0,af⟩):=by
 intro ops;induction ops with
 | nil=>intro cs h f;obtain rfl:=aF f;exact⟨rfl,λi b aM k=>by cases k⟩
 | cons o r q =>
   intro cs h f;have n:=h.cW o;unfold Hj at f;split at f
   .rename_i j;cases j
   .rename_i D p E j;injection j with s t
    subst t;rw[s] at n;cases l:Hj _ with
    | none=>rw[l] at f;cases f
    | some u =>
      rw[l] at f;obtain rfl:=aF f;obtain⟨v,F⟩:=q h l;refine⟨by simp[v],λi b aM k=>?_⟩;cases i with
      | zero =>
        obtain⟨rfl,rfl⟩:=eh (aF k);obtain⟨x,y,z,A⟩:=n.2;refine⟨x,y,z,λe=>?_⟩;obtain⟨c,g,C,m⟩:=A e;obtain m:a.eval o=_:=by simpa using m
        exact⟨c,g,C,by simp[m,eg]⟩
      | succ i =>
        grind
   .cases f
def LK{f:Nat}{c:Array Operand}{cs}(h:dm B N γ σ a w)(g:∀k,d=aa k->k<N)(e:Hj (c.toList.map<|cW σ)=aa cs) :
  nU P B N γ σ a w d (Instr.makeFunc (.func f) #[] (c.map a.eval)) (σ.bt d<|.fn f cs):=by
 obtain⟨j,m⟩:=adP h e;refine bM h g rfl ?_;refine⟨c.map a.eval,rfl,by rw[j];simp,λi b l n=>?_⟩
 grind
end
end Go.Ge
