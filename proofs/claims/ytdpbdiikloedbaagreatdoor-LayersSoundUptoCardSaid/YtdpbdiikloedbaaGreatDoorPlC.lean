/- Plain laws of what the functions compute: part 3. -/
import Derived.Test.YtdpbdiikloedbaaGreatDoorPlB
set_option linter.unusedSectionVars false
noncomputable section
open Go.IntKind (i64)
namespace Go.Ge
variable [Lp]
theorem aed:∀d:Fin 8,jC .i64 (cC .u8 ((48+d.val:Nat):Int) 48)=(d.val:Int):=by decide +kernel
theorem air{v d:Nat}(a:d<8)(g:8*v+d<9223372036854775808):wV .i64 (lQ .i64 (v:Int) 3) (jC .i64<|cC .u8 ((48+d:Nat):Int) 48)=((8*v+d:Nat):Int):=by
 rw[aed ⟨d,a⟩];have b:lQ .i64 (v:Int) 3=((8*v:Nat):Int):=by
  unfold lQ;rw[show min (Int.toNat 3) IntKind.i64.bits=3 from rfl,show(v:Int)*2 ^ 3=((8*v:Nat):Int) by omega];exact yc (by omega) (by omega)
 rw[b];unfold wV;have e:(BitVec.ofInt IntKind.i64.bits ((8*v:Nat):Int) ||| BitVec.ofInt IntKind.i64.bits (d:Int)).toNat=8*v+d:=by
  rw[BitVec.toNat_or];have c:(BitVec.ofInt IntKind.i64.bits ((8*v:Nat):Int)).toNat=2 ^ 3*v:=by
   rw[ZH,show(IntKind.i64.bits)=64 from rfl];omega
  have f:(BitVec.ofInt IntKind.i64.bits (d:Int)).toNat=d:=by
   rw[ZH,show(IntKind.i64.bits)=64 from rfl];omega
  rw[c,f,<-Nat.two_pow_add_eq_or_of_lt a]
 rw[e];exact yc (by omega) (by omega)
def vJ(s:aq):Prop:=∀x∈s,x≠0
instance (s:aq):Decidable (vJ s):=inferInstanceAs (Decidable (∀x∈s,x≠0))
theorem Fc:∀s:aq,decide (Lib.indexByte s 0<0)=decide (vJ s):=by
 intro s;induction s with
 | nil=>rfl
 | cons b r c =>
   unfold Lib.indexByte;by_cases e:b=0
   .subst e;rw[aQ<|by rfl,cJ (by decide),cJ λh=>h 0 (mo ..) rfl]
   .rw[aM<|by simpa using e];by_cases d:vJ r
    .rw[dI d] at c;have f:Lib.indexByte r 0<0:=gM c;have i:=(yX 0 r).1;have g:Lib.indexByte r 0=-1:=by omega
     rw[g,aQ (by rfl),dI (by decide),dI];intro x a;rcases fP.1 a with rfl|a
     .exact e
     .exact d x a
    .rw[cJ d] at c;have f:¬Lib.indexByte r 0<0:=Ln c;rw[aM<|by simp only[Q0];omega,cJ (by omega),cJ];intro h;exact d λx a=>h x (nX _ a)
theorem DL(s:aq):cN (s,0,())=some (Lib.indexByte s 0,()):=rfl
theorem DM(s:aq)(a:s.length<=1048576):jx (s,())=some (cm ca s,decide<|vJ<|cm ca s,()):=by
 unfold jx;dsimp only;rw[L3 s a,aa];dsimp only;rw[DL,aa];unfold aY;dsimp only;rw[Fc]
abbrev Hd:=aq×Int×Int×Int×Int×Int×Int×aq×ai
def TM(s:aq)(a:Int):Prop:=s≠[]/\(s.length:Int)<=a/\vJ s
instance (s:aq) (a:Int):Decidable (TM s a):=inferInstanceAs (Decidable<|_/\_/\_)
def HX(n b:Int):Prop:=0<=n/\n<b
instance (n b:Int):Decidable (HX n b):=inferInstanceAs (Decidable<|_/\_)
def kindOk(h:Hd):Prop:=(h.2.1=1/\h.2.2.2.2.2.2.2.1=[])\/(h.2.1=2/\h.2.2.2.2.2.2.2.1=[]/\h.2.2.2.2.2.1=0)\/(h.2.1=3/\TM h.2.2.2.2.2.2.2.1 100/\h.2.2.2.2.2.1=0)
instance (h:Hd):Decidable (kindOk h):=inferInstanceAs (Decidable<|_\/_\/_)
def Hn(h:Hd)(a:Int):Prop:=HX h.2.2.1 2097152/\HX h.2.2.2.1 2097152/\HX h.2.2.2.2.1 2097152/\HX h.2.2.2.2.2.1 8589934592/\HX h.2.2.2.2.2.2.1 8589934592/\TM h.1 a/\kindOk h
instance (h:Hd) (a:Int):Decidable (Hn h a):=inferInstanceAs (Decidable<|_/\_/\_/\_/\_/\_/\_)
theorem Cy(n b:Int):kq (n,b,())=some (decide<|HX n b,()):=by
 unfold kq;dsimp only;by_cases h:0<=n
 .rw[b6 h,ab];unfold aY HX
  congr 2
  simp[h]
 .rw[eF<|by omega,ae,cJ λe=>h e.1]
theorem NJ(s:aq)(m:Int):mI (s,m,())=some (decide<|TM s m,()):=by
 unfold mI;dsimp only;by_cases h:s=[]
 .subst h;rw[show bt [] []=true from rfl,aA,ae,ae,aa,cJ λe=>e.1 rfl]
 .rw[show bt s []=false from cJ h,aw,ab];by_cases a:(s.length:Int)<=m
  .rw[b6<|by simp only[len];exact a,ab,DL,aa,aa];unfold aY;dsimp only;rw[Fc]
   congr 2
   unfold TM;simp[h,a]
  .rw[eF<|by simp only[len];omega,ae,aa,cJ λe=>a e.2.1]
theorem SC(h:Hd)(m:Int):pE (h,m,())=some (decide<|Hn h m,()):=by
 unfold pE;dsimp only;by_cases d:HX h.2.2.1 2097152
 case neg=>rw[Cy,aa,cJ d,ae,aa,ae,aa,ae,aa,ae,aa,aw,aA,ae,aa,ab,cJ λe=>d e.1]
 rw[Cy,aa,dI d,ab,Cy,aa,aa];by_cases f:HX h.2.2.2.1 2097152
 case neg=>rw[cJ f,ae,aa,ae,aa,ae,aa,aw,aA,ae,aa,ab,cJ λe=>f e.2.1]
 rw[dI f,ab,Cy,aa,aa];by_cases g:HX h.2.2.2.2.1 2097152
 case neg=>rw[cJ g,ae,aa,ae,aa,aw,aA,ae,aa,ab,cJ λe=>g e.2.2.1]
 rw[dI g,ab,Cy,aa,aa];by_cases i:HX h.2.2.2.2.2.1 8589934592
 case neg=>rw[cJ i,ae,aa,aw,aA,ae,aa,ab,cJ λe=>i e.2.2.2.1]
 rw[dI i,ab,Cy,aa,aa];by_cases j:HX h.2.2.2.2.2.2.1 8589934592
 case neg=>rw[cJ j,aw,aA,ae,aa,ab,cJ λe=>j e.2.2.2.2.1]
 rw[dI j,aA,aw,ab,NJ,aa,aa];by_cases k:TM h.1 m
 case neg=>rw[cJ k,aw,ab,cJ λe=>k e.2.2.2.2.2.1]
 rw[dI k,aA,ae];have n:decide (Hn h m)=decide (kindOk h):=gi.2 ⟨λe=>e.2.2.2.2.2.2,λe=>⟨d,f,g,i,j,k,e⟩⟩;rw[n];by_cases l:h.2.1=1
 .rw[l,iZ,ab];unfold bt;rw[show decide (h.2.2.2.2.2.2.2.1=[])=decide (kindOk h) from gi.2 (by unfold kindOk;simp[l])]
 .rw[aE l,ae];by_cases b:h.2.1=2
  .rw[b,iZ,ab];unfold bt aX;by_cases a:h.2.2.2.2.2.2.2.1=[]
   .rw[dI a,ab,show decide (h.2.2.2.2.2.1=0)=decide (kindOk h) from gi.2 (by unfold kindOk;simp[b,a])]
   .rw[cJ a,ae,show decide (kindOk h)=false from cJ (by unfold kindOk;simp[b,a])]
  .rw[aE b,ae];by_cases c:h.2.1=3
   .rw[c,iZ,ab,NJ,aa];dsimp only;unfold aX;by_cases a:TM h.2.2.2.2.2.2.2.1 100
    .rw[dI a,ab,show decide (h.2.2.2.2.2.1=0)=decide (kindOk h) from gi.2 (by unfold kindOk;simp[c,a])]
    .rw[cJ a,ae,show decide (kindOk h)=false from cJ (by unfold kindOk;simp[c,a])]
   .rw[aE c,ae,show decide (kindOk h)=false from cJ (by unfold kindOk;simp[l,b,c])]
def cc:aq->List aq
 | []=>[[]]
 | b::r=>if b=47 then []::cc r else match cc r with
   | h::t=>(b::h)::t
   | []=>[[b]]
theorem nz(s:aq):cc s≠[]:=by
 cases s with
 | nil=>simp[cc]
 | cons b r =>
   unfold cc;split
   .simp
   .split<;>simp
theorem jj{b:UInt8}(h:b≠47){r x:aq}{t:List aq}(e:cc r=x::t):cc (b::r)=(b::x)::t:=by
 rw[cc,aM h,e]
def parts(p:aq):List aq:=if p=[] then [] else cc p
theorem SD{b:UInt8}(h:b≠47):∀(k:Nat) (r x:aq) (t:List aq),Lib.splitK [47] 0 k r=x::t->Lib.splitK [47] 0 k (b::r)=(b::x)::t:=by
 intro k r x t e;cases k with
 | zero=>simp[Lib.splitK] at e⊢;exact⟨by rw[e.1],e.2⟩
 | succ k =>
   have a:Lib.index (b::r) [47]=if Lib.index r [47]==-1 then -1 else Lib.index r [47]+1:=by
    rw[Lib.index];have:([47]:aq).isPrefixOf (b::r)=false:=by simp[List.isPrefixOf,F2 h]
    rw[this];simp
   have f:=Lib.index_ge r [47];unfold Lib.splitK at e⊢;rw[a];by_cases c:(Lib.index r [47]==-1)=true
   .rw[aQ c] at e⊢;simp at e⊢;exact⟨e.1,e.2⟩
   .rw[aM c] at e⊢;have g:Lib.index r [47]≠-1:=λq=>c (by rw[q];rfl);have i:¬((Lib.index r [47]+1==-1)=true):=λq=>by have:=Q0.1 q;omega
    rw[aM i];obtain⟨j,n⟩:∃j:Nat,Lib.index r [47]=j:=⟨(Lib.index r [47]).toNat,by omega⟩;have l:(Lib.index r [47]+1).toNat=j+1:=by omega
    have m:(Lib.index r [47]).toNat=j:=by omega
    rw[l];rw[m] at e;have:=QW e;rw[show j+1+([47]:aq).length=(j+([47]:aq).length)+1 by omega,List.drop_succ_cons,this.2];have d:=this.1;simp at d⊢;exact d
theorem PC(k:Nat)(r:aq):Lib.splitK [47] 0 (k+1) (47::r)=[]::Lib.splitK [47] 0 k r:=by
 have a:Lib.index (47::r) [47]=0:=by rw[Lib.index];simp[List.isPrefixOf]
 rw[Lib.splitK,a];simp
theorem Yl:∀(s:aq) (k:Nat),s.count 47<=k->Lib.splitK [47] 0 k s=cc s:=by
 intro s;induction s with
 | nil =>
   intro k _;cases k with
   | zero=>rfl
   | succ k=>simp[Lib.splitK,cc,Lib.index]
 | cons b r e =>
   intro k a;by_cases h:b=47
   .subst h;obtain⟨c,rfl⟩:∃c,k=c+1:=⟨k-1,by rw[List.count_cons_self] at a;omega⟩;rw[PC,e c (by rw[List.count_cons_self] at a;omega),cc,aQ rfl]
   .have:=e k (by rwa [List.count_cons_of_ne h] at a);cases d:cc r with
    | nil=>exact absurd d (nz r)
    | cons x t =>
      rw[d] at this;rw[SD h k r x t this,jj h d]
theorem abl(s:aq):Lib.split s [47]=cc s:=by
 unfold Lib.split;exact Yl s _ (by rw[Lib.count_one];exact cg _)
theorem WL(c:UInt8):aX (u8 c) 47=decide (c=47):=BK (n:=47)
theorem aga(c:UInt8):aX (u8 c) 0=decide (c=0):=BK (n:=0)
theorem pG(p:aq)(a:p.length<=1048576):eS (p,())=some (parts p,()):=by
 unfold eS parts;dsimp only;by_cases h:p=[]
 .rw[ch h,ab,aQ h]
 .rw[bj h,ae,aM h];have:s9 (p,[47],())=some (cc p,()):=by
   show(AN p [47]).map (λy=>(y,()))=_
   unfold AN;simp only;rw[aQ<|by omega,abl];rfl
  rw[this,aa]
theorem gC(p:aq)(w:p.length<=1048576):dP (p,())=some (parts p,()):=by
 unfold dP parts;dsimp only;by_cases h:p=[]
 .rw[ch h,ab,aQ h]
 .rw[bj h,ae,aM h];have key:=oh (f:=jW (p,())) p (λ(s:aq×List aq) i=>(((),s.1,(i:Int),()),s.2,()))
   (λi s x=>some (.inl<|if x=47 then([],s.2++[s.1]) else(s.1++[x],s.2))) (λi s=>(((),s.1,(i:Int),()),s.2,())) (λi s=>s.1.length<=i/\s.2.length<=i)
   (λs i x n v q=>by
    unfold jW;dsimp only;rw[ak v,ab,ao n,aa,WL];by_cases b:x=47
    .rw[dI b,ab,bD (by simp only[dd,eB];omega),ab,aa,aL (by omega)];simp only[aQ b];rfl
    .rw[cJ b,ae,aL (by omega),mE (by omega) (by omega),ab,sub_one n,bD (by simp only[dd,eB];omega),ab,aa];simp only[aM b];rfl)
   (λs i x y n q d=>by
    obtain rfl:=M3 (aI d);by_cases b:x=47
    .simp only[aQ b,fQ,dd,eB];omega
    .simp only[aM b,fQ,dd,eB];omega)
   (λs q=>by
    unfold jW;dsimp only;rw[ay,ae];rfl)
   (λs i x _ _ h=>by cases h) ([],[]) ⟨cg _,cg _⟩
  have run:∀(r:aq) (i:Nat) (a:aq) (o:List aq),∃e c j,sD (λi (s:aq×List aq) x=>some (.inl<|if x=47 then([],s.2++[s.1]) else(s.1++[x],s.2))) (λi (s:aq×List aq)=>(((),s.1,(i:Int),()),s.2,())) r i (a,o)=some (((),e,j,()),c,()) /\
    c++[e]=o++(match cc r with|h::t=>(a++h)::t|[]=>[a])/\c.length<=o.length+r.length:=by
   intro r;induction r with
   | nil=>intro i a o;exact⟨a,o,_,rfl,by simp[cc],by simp⟩
   | cons x r u =>
     intro i a o;by_cases b:x=47
     .obtain⟨e,c,j,g,k,l⟩:=u (i+1) [] (o++[a]);refine⟨e,c,j,?_,?_,?_⟩
      .unfold sD;simp only[aQ b];exact g
      .rw[k,cc,aQ b];cases d:cc r with
       | nil=>exact absurd d (nz r)
       | cons h t=>simp
      .simp only[fQ,dd,eB] at l⊢;omega
     .obtain⟨e,c,j,g,k,l⟩:=u (i+1) (a++[x]) o;refine⟨e,c,j,?_,?_,?_⟩
      .unfold sD;simp only[aM b];exact g
      .rw[k];cases d:cc r with
       | nil=>exact absurd d (nz r)
       | cons h t=>rw[jj b d];simp
      .simp only[dd] at l⊢;omega
  obtain⟨e,c,j,g,k,l⟩:=run p 0 [] [];have m:Loop (jW (p,())) (((),([]:aq),(0:Int),()),([]:List aq),())=some (((),e,j,()),c,()):=key.trans g;rw[m,aa];dsimp only;simp only[eB] at l;rw[bD<|by simp only[dd,eB];omega,ab,ye,k];cases d:cc p with
  | nil=>exact absurd d (nz p)
  | cons h t=>simp
def aG:List aq->aq
 | []=>[]
 | [x]=>x
 | x::y::r=>x++47::aG (y::r)
theorem abm(l:List aq):Lib.join l [47]=aG l:=by
 induction l with
 | nil=>rfl
 | cons x r a =>
   cases r with
   | nil=>simp[Lib.join_one,aG]
   | cons y r =>
     rw[aG,<-a,Lib.join_cons,Lib.join_cons];simp[Lib.joinTail]
theorem tO(s:aq):aG (cc s)=s:=by
 induction s with
 | nil=>rfl
 | cons b r a =>
   by_cases h:b=47
   .subst h;rw[cc,aQ rfl];cases c:cc r with
    | nil=>exact absurd c (nz r)
    | cons x t=>rw[aG,<-c,a];rfl
   .cases c:cc r with
    | nil=>exact absurd c (nz r)
    | cons x t =>
      rw[jj h c];rw[c] at a;cases t with
      | nil=>rw[aG] at a⊢;rw[a]
      | cons y t=>rw[aG] at a⊢;rw[zi,a]
theorem fh(p:aq):aG (parts p)=p:=by
 unfold parts;by_cases h:p=[]
 .rw[aQ h,h];rfl
 .rw[aM h,tO]
theorem Cz(x:aq)(a:47∉x)(r:aq):cc (x++47::r)=x::cc r:=by
 induction x with
 | nil=>rw[sW,cc,aQ rfl]
 | cons b x c =>
   simp only[fP,F3] at a;exact jj (λe=>a.1 e.symm) (c a.2)
theorem nB(x:aq)(a:47∉x):cc x=[x]:=by
 induction x with
 | nil=>rfl
 | cons b x c =>
   simp only[fP,F3] at a;exact jj (λe=>a.1 e.symm) (c a.2)
theorem DN(l:List aq)(a:l≠[])(h:∀x∈l,47∉x):cc (aG l)=l:=by
 induction l with
 | nil=>exact absurd rfl a
 | cons x r b =>
   cases r with
   | nil=>rw[aG];exact nB x (h x<|mo ..)
   | cons y r =>
     rw[aG,Cz x (h x<|mo ..),b (by simp) λz c=>h z (nX _ c)]
theorem Vc(s:aq):∀x∈cc s,47∉x/\x.length<=s.length:=by
 induction s with
 | nil=>intro x a;simp[cc] at a;subst a;simp
 | cons b r d =>
   intro x a;by_cases h:b=47
   .rw[cc,aQ h] at a;rcases fP.1 a with rfl|a
    .simp
    .obtain⟨c,g⟩:=d x a;exact⟨c,by simp only[dd];omega⟩
   .cases f:cc r with
    | nil=>exact absurd f (nz r)
    | cons y t =>
      rw[jj h f] at a;rw[f] at d;rcases fP.1 a with rfl|a
      .obtain⟨c,g⟩:=d y (mo ..);exact⟨by simp only[fP,F3];exact⟨λe=>h e.symm,c⟩,by simp only[dd];omega⟩
      .obtain⟨c,g⟩:=d x (nX _ a);exact⟨c,by simp only[dd];omega⟩
theorem BL(s:aq):(cc s).length<=s.length+1:=by
 induction s with
 | nil=>simp[cc]
 | cons b r c =>
   by_cases h:b=47
   .rw[cc,aQ h];simp only[dd];omega
   .cases a:cc r with
    | nil=>exact absurd a (nz r)
    | cons y t=>rw[jj h a];rw[a] at c;simp only[dd] at c⊢;omega
theorem AY(p:aq):∀x∈parts p,47∉x/\x.length<=p.length:=by
 unfold parts;by_cases h:p=[]
 .rw[aQ h];intro x a;cases a
 .rw[aM h];exact Vc p
theorem eu(p:aq):(parts p).length<=p.length+1:=by
 unfold parts;by_cases h:p=[]
 .rw[aQ h];simp
 .rw[aM h];exact BL p
theorem jk(l:List aq)(h:∀x∈l,47∉x/\x≠[]):parts (aG l)=l:=by
 unfold parts;cases l with
 | nil=>rfl
 | cons x r =>
   have a:aG (x::r)≠[]:=by
    have:=(h x<|mo ..).2;cases r with
    | nil=>rw[aG];exact this
    | cons y r=>rw[aG];simp
   rw[aM a,DN _ (by simp) λz b=>(h z b).1]
theorem zS(l:List aq)(s:l.length<=1048576)(k:(aG l).length<=1048576):nk (l,())=some (aG l,()):=by
 unfold nk;have pre:∀(a b:List aq),a≠[]->b≠[]->aG (a++b)=aG a++47::aG b:=by
  intro a;induction a with
  | nil=>intro b h;exact absurd rfl h
  | cons x r p =>
    intro b _ c;cases r with
    | nil =>
      cases b with
      | nil=>exact absurd rfl c
      | cons y b=>rfl
    | cons y r =>
      have:=p b (by simp) c;rw[zi,zi,aG,aG,<-zi,this];simp
 have mono:∀i,(aG<|l.take i).length<=(aG l).length:=by
  intro i;by_cases m:l.take i=[]
  .rw[m];simp[aG]
  .by_cases c:l.drop i=[]
   .rw[show l.take i=l from by have:=uu i l;rw[c,xN] at this;exact this];exact cg _
   .have:=pre _ _ m c;rw[uu] at this;rw[this,fQ];omega
 have step:∀i x,l[i]?=some x->aG (l.take<|i+1)=(if 0<i then aG (l.take i)++[47] else aG (l.take i))++x:=by
  intro i x k;have e:l.take (i+1)=l.take i++[x]:=by rw[Be,k];rfl
  rw[e];cases i with
  | zero=>rfl
  | succ i =>
    rw[aQ<|by omega,pre _ _ (by have:=aD k;intro q;have:=congrArg List.length q;rw[fB] at this;simp only[eB] at this;omega) (by simp)];simp[aG]
 have key:=cR (f:=kY (l,())) (r:=((aG l,(l.length:Int),()),())) l.length (λi=>((aG<|l.take i,(i:Int),()),())) (λi n=>by
  obtain⟨x,d⟩:∃x,l[i]?=some x:=⟨_,fN n⟩;have g:=step i x d;have c:=mono (i+1);rw[g] at c;unfold kY;dsimp only;rw[ak n,ab];by_cases o:0<i
  .rw[aQ o] at g c;rw[fQ,fQ] at c;simp only[dd,eB] at c;rw[aK<|by omega,ab,bD (by simp only[dd,eB];omega),ab,aa,ao d,aa];dsimp only;rw[bD<|by simp only[ye,fQ,dd,eB];omega,ab,aL (by omega),g];rfl
  .rw[aM o] at g c;rw[fQ] at c;rw[aB<|by omega,ae,aa,ao d,aa];dsimp only;rw[bD<|by omega,ab,aL (by omega),g];rfl) (by
  unfold kY;dsimp only;rw[ay,ae,wQ];rfl)
 have j:Loop (kY (l,())) ((([]:aq),(0:Int),()),())=some ((aG l,(l.length:Int),()),()):=key;rw[j,aa]
def qh(s:aq):Bool:=decide (s≠[46]/\s≠[46,46]/\1<=s.length/\s.length<=32/\0∉s)
theorem BM(s:aq):decide (Lib.indexByte s 0<0)=decide (0∉s):=by
 rw[Fc];by_cases h:vJ s
 .rw[dI h,dI];intro a;exact h 0 a rfl
 .rw[cJ h,cJ];intro a;exact h λx b e=>a (e▸b)
theorem Vd(s:aq):qb (s,())=some (qh s,()):=by
 unfold qb;have one:∀i:Nat,i<2->l6 (s,()) ((false,(i:Int),()),())=if bt s (if i=0 then [46] else [46,46])=true then some (.inr (1,(false,(i:Int),()),())) else some (.inl ((false,((i+1:Nat):Int),()),())):=by
  intro i h;unfold l6;dsimp only;rw[aK<|by omega,ab,tK];rcases(by omega:i=0\/i=1) with rfl|rfl
  .rw[show([[46],[46,46]]:List aq)[0]?=some [46] from rfl,aa,hJ];rfl
  .rw[show([[46],[46,46]]:List aq)[1]?=some [46,46] from rfl,aa,hJ];rfl
 by_cases c:s=[46]
 .rw[aN,show((false,(0:Int),()),())=((false,((0:Nat):Int),()),()) from rfl,one 0 (by omega),aQ (by rw[aQ rfl];exact ch c)];subst c;rfl
 .rw[aN,show((false,(0:Int),()),())=((false,((0:Nat):Int),()),()) from rfl,one 0 (by omega),aM (by rw[aQ rfl,bj c];simp)];by_cases d:s=[46,46]
  .simp only[Option.bind];rw[aN,one 1 (by omega),aQ (by rw[aM<|by omega];exact ch d)];subst d;rfl
  .simp only[Option.bind];rw[aN,one 1 (by omega),aM (by rw[aM<|by omega,bj d];simp)];simp only[Option.bind];rw[aN];have e:l6 (s,()) ((false,((1+1:Nat):Int),()),())=some (.inr (0,(false,(2:Int),()),())):=rfl;rw[e];simp only[Option.bind];rw[aa];dsimp only;rw[bO,ab];have el:cu 1 (len s)=decide (1<=s.length):=by unfold cu len;apply gi.2;omega
   have f:cu (len s) 32=decide (s.length<=32):=yd 32 s;rw[el,f];have g:cN (s,0,())=some (Lib.indexByte s 0,()):=rfl;rw[g,aa];dsimp only;rw[show aY (Lib.indexByte s 0) 0=decide (0∉s) from BM s];unfold qh;by_cases a:1<=s.length
   .by_cases b:s.length<=32
    .simp[a,b,aj,af,c,d]
    .simp[a,b,aj,af]
   .simp[a,aj,af]
theorem L7(s:aq)(y:s.length<=1048576):qd (s,())=some (qh s&&decide (47∉s),()):=by
 unfold qd;have key:=oh (f:=jh (s,())) s (λ(_:ai) i=>((false,(i:Int),()),()))
  (λi _ x=>some (if x=0\/x=47 then .inr (1,(false,(i:Int),()),()) else .inl ())) (λi _=>(0,(false,(i:Int),()),())) (λ_ _=>True)
  (λu i x p t _=>by
   unfold jh;dsimp only;rw[ak t,ab,ao p,aa,aga];by_cases k:x=0
   .rw[dI k,aA,ae,aa,ab,aQ (.inl k)];rfl
   .rw[cJ k,aw,ab,aa,WL,aa];by_cases g:x=47
    .rw[dI g,ab,aQ (.inr g)];rfl
    .rw[cJ g,ae,aM (by simp[k,g]),aL (by omega)];rfl)
  (λ_ _ _ _ _ _ _=>trivial)
  (λu _=>by
   unfold jh;dsimp only;rw[ay,ae])
  (λ_ _ _ _ _ h=>by cases h) () trivial
 have run:∀(r:aq) (i:Nat),∃q,sD (λi (_:ai) x=>some (if x=0\/x=47 then Sum.inr (1,(false,(i:Int),()),()) else Sum.inl ())) (λi _=>((0:Nat),(false,(i:Int),()),())) r i ()=some q /\
   q.1=(if 0∉r/\47∉r then 0 else 1)/\q.2.1.1=false:=by
  intro r;induction r with
  | nil=>intro i;exact⟨_,rfl,by simp,rfl⟩
  | cons x r v =>
    intro i;unfold sD;by_cases h:x=0\/x=47
    .simp only[aQ h];refine⟨_,rfl,?_,rfl⟩;rw[aM];rcases h with h|h<;>simp[h]
    .simp only[aM h];obtain⟨q,g,l,m⟩:=v (i+1);refine⟨q,g,?_,m⟩;rw[l];simp only[F3] at h;simp only[fP,F3];have n:¬(0=x):=λe=>h.1 e.symm;have o:¬(47=x):=λe=>h.2 e.symm;simp[n,o]
 obtain⟨q,g,l,m⟩:=run s 0;have j:Loop (jh (s,())) ((false,(0:Int),()),())=some q:=key.trans g;rw[j,aa];have el:cu 1 (len s)=decide (1<=s.length):=by unfold cu len;apply gi.2;omega
 have w:cu (len s) 32=decide (s.length<=32):=yd 32 s;rw[el,w,l,m];unfold qh;by_cases a:0∉s/\47∉s
 .rw[aQ a,bO,ab];by_cases c:1<=s.length
  .by_cases d:s.length<=32
   .by_cases e:s=[46]
    .simp[e,aj,bt,nt]
    .by_cases f:s=[46,46]
     .simp[f,aj,bt,nt]
     .simp[a,c,d,e,f,aj,bt,nt]
   .simp[d,c,aj]
  .simp[c,aj]
 .rw[aM a,ed,ae]
  congr 2
  by_cases b:0∈s
  .simp[b]
  .have:47∈s:=by
    have:=a;simp only[not_and,V5] at this;exact this b
   simp[this]
theorem NK(p:aq)(n:p.length<=1048576):uQ (p,())=some ((parts p).all qh&&decide ((parts p).length<=8)&&decide (p.length<=96),()):=by
 unfold uQ;dsimp only;rw[gC p n,aa];have k:=AY p;have o:=eu p;generalize parts p=l at k o;have key:=oh (f:=oo (l,())) l (λ(_:ai) i=>((false,(i:Int),()),()))
  (λi _ x=>some (if qh x=false then .inr (1,(false,(i:Int),()),()) else .inl ())) (λi _=>(0,(false,(i:Int),()),())) (λ_ _=>True)
  (λu i x m s _=>by
   unfold oo;dsimp only;have c:=k x (dY m);rw[ak s,ab,ao m,aa,L7 x (by omega),aa];dsimp only;rw[dI c.1,ZV];cases h:qh x with
   | true=>rw[aA,ae,aM (by simp),aL (by omega)];rfl
   | false=>rw[aw,ab,aQ rfl];rfl)
  (λ_ _ _ _ _ _ _=>trivial)
  (λu _=>by
   unfold oo;dsimp only;rw[ay,ae])
  (λ_ _ _ _ _ h=>by cases h) () trivial
 have run:∀(r:List aq) (i:Nat),∃q,sD (λi (_:ai) x=>some (if qh x=false then Sum.inr (1,(false,(i:Int),()),()) else Sum.inl ())) (λi _=>((0:Nat),(false,(i:Int),()),())) r i ()=some q /\
   q.1=(if r.all qh=true then 0 else 1)/\q.2.1.1=false:=by
  intro r;induction r with
  | nil=>intro i;exact⟨_,rfl,rfl,rfl⟩
  | cons x r t =>
    intro i;unfold sD;cases h:qh x with
    | false=>exact⟨_,rfl,by simp[h],rfl⟩
    | true =>
      obtain⟨q,d,e,g⟩:=t (i+1);exact⟨q,d,by rw[e];simp[h],g⟩
 obtain⟨q,d,e,g⟩:=run l 0;have b:Loop (oo (l,())) ((false,(0:Int),()),())=some q:=key.trans d;rw[b,aa,e,g];have v:cu (len l) 8=decide (l.length<=8):=yd 8 l;have j:cu (len p) 96=decide (p.length<=96):=yd 96 p;rw[v,j];cases h:l.all qh with
 | true =>
   rw[aQ rfl,bO,ab];by_cases a:l.length<=8<;>simp[a,aj]
 | false=>rw[aM<|by simp,ed,ae];simp
def l9(x:aq):Bool:=decide (x≠[]/\x≠[46])
def names(s:aq):List aq:=(parts s).filter l9
def kH(s:aq):Bool:=(names s).all qh&&decide (s.head?≠some 47)&&decide ((names s).length<=8)&&decide ((aG<|names s).length<=96)
def j6(s:aq):aq×Int:=if kH s then(aG<|names s,0) else([],2)
theorem uj(s:aq):∀x∈names s,47∉x/\x≠[]/\x.length<=s.length:=by
 intro x b;obtain⟨c,a⟩:=we.1 b;obtain⟨d,e⟩:=AY s x c;simp only[l9,kQ] at a;exact⟨d,a.1,e⟩
theorem DO(s:aq):(names s).length<=s.length+1:=gj (MS _ _) (eu s)
theorem Gy(s:aq):parts (aG<|names s)=names s:=jk _ λx a=>⟨(uj s x a).1,(uj s x a).2.1⟩
theorem uX(s:aq):(aG<|names s).length<=s.length:=by
 have gen:∀(l:List aq),(aG<|l.filter l9).length<=(aG l).length:=by
  intro l;induction l with
  | nil=>simp[aG]
  | cons x r a =>
    by_cases b:l9 x=true
    .rw[Zx b];cases c:r.filter l9 with
     | nil =>
       cases r with
       | nil=>exact cg _
       | cons y r=>simp only[aG,fQ,dd];omega
     | cons y q =>
       rw[c] at a;cases r with
       | nil=>simp at c
       | cons z r=>simp only[aG,fQ,dd] at a⊢;omega
    .rw[Zy b];cases r with
     | nil=>simp[aG]
     | cons z r=>rw[aG];simp only[fQ,dd];omega
 have:=gen (parts s);rw[fh] at this;exact this
theorem SE(s:aq):cp (s,[47],())=some (decide<|s.head?=some 47,()):=by
 unfold cp cj;dsimp only;cases s with
 | nil=>rfl
 | cons b r =>
   have e:cu (len [(47:UInt8)]) (len (b::r))=true:=b6 (by simp only[len,dd,eB];omega);have a:inside 0 (len [(47:UInt8)]) (len (b::r))=true:=aR (by decide) (by decide) (by simp only[len,dd,eB];omega);rw[e,ab,a,ab,AP,aa,aa];simp[bt]
theorem NL(s:aq)(B:s.length<=4096):om (s,())=some ((j6 s).1,(j6 s).2,()):=by
 unfold om;dsimp only;rw[pG s<|by omega,aa];have C:=AY s;have D:=eu s;have key:=oh (f:=jV (parts s,())) (parts s) (λ(o:List aq) i=>((([]:aq),(0:Int),(),(i:Int),()),o,()))
  (λi o x=>some (if l9 x=false then .inl o else if qh x=false then .inr (1,(([]:aq),(2:Int),(),(i:Int),()),o,()) else .inl (o++[x]))) (λi o=>(0,(([]:aq),(0:Int),(),(i:Int),()),o,())) (λi o=>o.length<=i)
  (λo i x j u v=>by
   unfold jV;dsimp only;rw[ak u,ab,ao j,aa];have g:l9 x=(nt (bt x [])&&nt (bt x [46])):=by simp[l9,bt,nt]
   by_cases a:x=[]
   .rw[ch a,aA,ae,ab,aa];dsimp only;rw[bO,ab,aL (by omega),aQ (by rw[g,ch a];rfl)];rfl
   .by_cases b:x=[46]
    .rw[bj a,aw,ab,ch b,ab,aa];dsimp only;rw[bO,ab,aL (by omega),aQ (by rw[g,ch b];simp[nt])];rfl
    .rw[bj a,aw,ab,bj b,ae,Vd,aa];dsimp only;have k:l9 x=true:=by rw[g,bj a,bj b];rfl
     cases h:qh x with
     | false =>
       rw[aw,ab,aa];dsimp only;rw[ed,ae,aM (by rw[k];simp),aQ rfl];rfl
     | true =>
       rw[aA,ae,bD (by simp only[dd,eB];omega),ab,aa];dsimp only;rw[bO,ab,aL (by omega),aM (by rw[k];simp),aM (by simp)];rfl)
  (λo i x E j v e=>by
   have e:=aI e;by_cases a:l9 x=false
   .rw[aQ a] at e;obtain rfl:=M3 e;omega
   .rw[aM a] at e;by_cases b:qh x=false
    .rw[aQ b] at e;cases e
    .rw[aM b] at e;obtain rfl:=M3 e;simp only[fQ,dd,eB];omega)
  (λo _=>by
   unfold jV;dsimp only;rw[ay,ae])
  (λ_ _ _ _ _ h=>by cases h) [] (cg _)
 have run:∀(r:List aq) (i:Nat) (o:List aq),∃q,sD (λi (o:List aq) x=>some (if l9 x=false then Sum.inl o else if qh x=false then Sum.inr (1,(([]:aq),(2:Int),(),(i:Int),()),o,()) else Sum.inl (o++[x]))) (λi o=>((0:Nat),(([]:aq),(0:Int),(),(i:Int),()),o,())) r i o=some q /\
   (if(r.filter l9).all qh=true then q.1=0/\q.2.2.1=o++r.filter l9 else q.1=1/\q.2.1.1=[]/\q.2.1.2.1=2):=by
  intro r;induction r with
  | nil=>intro i o;exact⟨_,rfl,by simp⟩
  | cons x r p =>
    intro i o;unfold sD;cases g:l9 x with
    | false =>
      obtain⟨q,l,d⟩:=p (i+1) o;refine⟨q,l,?_⟩;rw[Zy<|by simp[g]];exact d
    | true =>
      rw[Zx g];cases j:qh x with
      | false=>exact⟨_,rfl,by simp[j]⟩
      | true =>
        obtain⟨q,l,d⟩:=p (i+1) (o++[x]);refine⟨q,l,?_⟩;simp only[Iz,j,QU];rw[kR] at d;exact d
 obtain⟨q,l,d⟩:=run (parts s) 0 [];have m:Loop (jV (parts s,())) ((([]:aq),(0:Int),(),(0:Int),()),([]:List aq),())=some q:=key.trans l;rw[m,aa];rw[show(parts s).filter l9=names s from rfl,sW] at d;have F:=uX s;have w:=DO s;unfold j6 kH;cases t:(names s).all qh with
 | false =>
   rw[t,aM (by simp)] at d;rw[d.1,ed,ae,d.2.1,d.2.2];rfl
 | true =>
   rw[t,aQ rfl] at d;rw[d.1,bO,ab,d.2];have z:uM (names s,[47],())=some (aG<|names s,()):=by
    show(E3 (names s) [47]).map (λy=>(y,()))=_
    unfold E3;rw[abm,aQ ⟨by omega,by omega⟩];rfl
   rw[z,aa,SE,aa];dsimp only;have A:aY 8 (len<|names s)=!decide ((names s).length<=8):=by
    by_cases h:(names s).length<=8
    .rw[aB<|by simp only[len];omega];simp[h]
    .rw[aK<|by simp only[len];omega];simp[h]
   have n:aY 96 (len<|aG<|names s)=!decide ((aG<|names s).length<=96):=by
    by_cases h:(aG<|names s).length<=96
    .rw[aB<|by simp only[len];omega];simp[h]
    .rw[aK<|by simp only[len];omega];simp[h]
   rw[A,n];by_cases a:s.head?=some 47
   .simp[a,aj,nt]
   .by_cases b:(names s).length<=8
    .by_cases c:(aG<|names s).length<=96<;>simp[a,b,c,aj,nt]
    .simp[a,b,aj,nt]
theorem PD(s:aq)(u:s.length<=4096):rU (s,())=some ((j6 s).1,(j6 s).2,()):=by
 unfold rU;dsimp only;rw[gC s<|by omega,aa];have v:=AY s;have w:=eu s;have key:=oh (f:=jX (parts s,())) (parts s) (λ(o:List aq) i=>(((),(i:Int),()),o,()))
  (λi o x=>some (.inl<|if l9 x=true then o++[x] else o)) (λi o=>(((),(i:Int),()),o,())) (λi o=>o.length<=i)
  (λo i x g l m=>by
   unfold jX;dsimp only;rw[ak l,ab,ao g,aa,aa];have d:l9 x=(nt (bt x [])&&nt (bt x [46])):=by simp[l9,bt,nt]
   by_cases a:x=[]
   .rw[ch a,aA,ae,aa,ae,aa,aL (by omega),aM (by rw[d,ch a];simp[nt])];rfl
   .by_cases b:x=[46]
    .rw[bj a,aw,ab,ch b,aA,aa,ae,aa,aL (by omega),aM (by rw[d,ch b];simp[nt])];rfl
    .rw[bj a,aw,ab,bj b,aw,aa,ab,aa,bD (by simp only[dd,eB];omega),ab,aa,aL (by omega),aQ (by rw[d,bj a,bj b];rfl)];rfl)
  (λo i x y g m n=>by
   obtain rfl:=M3 (aI n);by_cases a:l9 x=true
   .rw[aQ a];simp only[fQ,dd,eB];omega
   .rw[aM a];omega)
  (λo _=>by
   unfold jX;dsimp only;rw[ay,ae];rfl)
  (λ_ _ _ _ _ h=>by cases h) [] (cg _)
 have run:∀(r:List aq) (i:Nat) (o:List aq),∃j,sD (λi (o:List aq) x=>some (Sum.inl<|if l9 x=true then o++[x] else o)) (λi o=>(((),(i:Int),()),o,())) r i o=some (((),j,()),o++r.filter l9,()):=by
  intro r;induction r with
  | nil=>intro i o;exact⟨(i:Int),by simp[sD]⟩
  | cons x r k =>
    intro i o;unfold sD;by_cases d:l9 x=true
    .simp only[aQ d];obtain⟨j,h⟩:=k (i+1) (o++[x]);exact⟨j,by rw[h,Zx d];simp⟩
    .simp only[aM d];obtain⟨j,h⟩:=k (i+1) o;exact⟨j,by rw[h,Zy d]⟩
 obtain⟨j,p⟩:=run (parts s) 0 [];have e:Loop (jX (parts s,())) (((),(0:Int),()),([]:List aq),())=some (((),j,()),names s,()):=by
  have:=key.trans p;rw[sW] at this;exact this
 have z:=uX s;have q:=DO s;rw[e,aa];dsimp only;rw[zS _ (by omega)<|by omega,aa];have e0:af (aj (nt<|bt s []) (af (idx s 0) λt=>some (aX (u8 t) 47))<|some false)=λ(f:Bool->Option (aq×Int×ai))=>f (decide<|s.head?=some 47):=by
  funext f;cases s with
  | nil=>rfl
  | cons b r =>
    rw[bj<|by simp,aw,ab,show idx (b::r) 0=some b from rfl,aa,WL,aa]
    congr 1
    simp
 rw[e0];dsimp only;rw[NK _<|by omega,aa,Gy];unfold j6 kH;dsimp only;by_cases a:s.head?=some 47
 .simp[a,aj,nt,af]
 .cases A:(names s).all qh with
  | false=>simp[a,aj,nt,af]
  | true =>
    by_cases b:(names s).length<=8
    .by_cases c:(aG<|names s).length<=96<;>simp[a,b,c,aj,nt,af]
    .simp[a,b,aj,nt,af]
def y3(p:aq):Nat->Option Nat
 | 0=>none
 | n+1=>if p[n]?=some 47 then some n else y3 p n
theorem PE(p:aq)(g:p.length<=1048576):cI (p,47,())=some (match y3 p p.length with|some k=>(k:Int)|none=>-1,()):=by
 unfold cI;dsimp only;have run:∀n,n<=p.length->∃q,Loop (cA (p,47,())) ((0,((n:Int)-1),()),())=some q/\(match y3 p n with|some k=>q.1=1/\q.2.1.1=(k:Int)|none=>q.1=0):=by
  intro n;induction n with
  | zero =>
    intro _;refine⟨(0,(0,-1,()),()),?_,rfl⟩;rw[aN];rfl
  | succ n d =>
    intro i;obtain⟨y,b⟩:∃y,p[n]?=some y:=⟨_,fN (by omega)⟩;have e:((n+1:Nat):Int)-1=(n:Int):=by omega
    rw[e,aN];have st:cA (p,47,()) ((0,(n:Int),()),())=if y=47 then some (.inr (1,((n:Int),(n:Int),()),())) else some (.inl ((0,(n:Int)-1,()),())):=by
     unfold cA;dsimp only;rw[b6<|by omega,ab,ao b,aa,WL,de (by omega) (by omega),JR]
    rw[st,y3,b];by_cases h:y=47
    .rw[aQ h,aQ (by rw[h])];exact⟨_,rfl,rfl,rfl⟩
    .rw[aM h,aM λq=>h (aI q)];exact d (by omega)
 obtain⟨q,f,a⟩:=run p.length (cg _);have e:cC .i64 (len p) 1=(p.length:Int)-1:=by rw[bz,de (by omega) (by omega)]
 rw[e,f,aa];cases c:y3 p p.length with
 | none=>rw[c] at a;rw[a,bO,ab]
 | some k=>rw[c] at a;rw[a.1,a.2,ed,ae]
theorem J1:∀{p:aq} {n k:Nat},y3 p n=some k->k<n/\p[k]?=some 47/\∀j,k<j->j<n->p[j]?≠some 47:=by
 intro p n;induction n with
 | zero=>intro k h;cases h
 | succ n c =>
   intro k h;rw[y3] at h;split at h
   .rename_i a;obtain rfl:=aI h;exact⟨QN _,a,λj d b=>by omega⟩
   .rename_i a;obtain⟨d,b,f⟩:=c h;refine⟨by omega,b,λj g i=>?_⟩;by_cases e:j=n
    .rw[e];exact a
    .exact f j g (by omega)
theorem Ve:∀{p:aq} {n:Nat},y3 p n=none->∀j,j<n->p[j]?≠some 47:=by
 intro p n;induction n with
 | zero=>intro _ j h;omega
 | succ n a =>
   intro h j c;rw[y3] at h;split at h
   .cases h
   .rename_i b;by_cases e:j=n
    .rw[e];exact b
    .exact a h j (by omega)
def bg(p:aq):aq×aq:=match y3 p p.length with|some k=>(p.take k,p.drop (k+1))|none=>([],p)
theorem pH(p:aq):(47∉p/\bg p=([],p))\/∃a b,p=a++47::b/\47∉b/\bg p=(a,b):=by
 unfold bg;cases h:y3 p p.length with
 | none =>
   refine .inl ⟨λd=>?_,rfl⟩;obtain⟨j,c,e⟩:=MT d;exact Ve h j c (by rw[fN c,e])
 | some k =>
   obtain⟨l,f,g⟩:=J1 h;refine .inr ⟨p.take k,p.drop (k+1),?_,λd=>?_,rfl⟩
   .obtain⟨i,e⟩:=fq.1 f;rw[<-e,<-wM i,uu]
   .obtain⟨j,c,e⟩:=MT d;rw[kx] at c;rw[List.getElem_drop] at e;exact g (k+1+j) (by omega) (by omega) (by rw[fN<|by omega,e])
theorem pj(p:aq)(a:p.length<=1048576):fD (p,())=some ((bg p).1,(bg p).2,()):=by
 unfold fD n0;dsimp only;rw[show aX (len [(47:UInt8)]) 0=false from rfl,ae,show aX (len [(47:UInt8)]) 1=true from rfl,ab,show idx [(47:UInt8)] 0=some 47 from rfl,aa];rw[show u8 47=47 from rfl,PE p a,aa,aa];unfold bg;cases h:y3 p p.length with
 | none=>rw[aK<|by decide,ab]
 | some k =>
   obtain⟨b,_,_⟩:=J1 h;dsimp only;rw[aB<|by omega,ae,show inside 0 (k:Int) (len p)=true from aR (by omega) (by omega) (by rw[bz];omega),ab,aL (by omega),aR (by omega) (by rw[bz];omega) (re _),ab,gn,mD p (k+1) (by omega)]
theorem zT(a b:aq)(g:47∉b):cc (a++47::b)=cc a++[b]:=by
 induction a with
 | nil =>
   have e:cc (47::b)=[]::cc b:=by rw[cc,aQ rfl]
   rw[sW,e,nB b g];rfl
 | cons c a d =>
   rw[zi];by_cases h:c=47
   .rw[cc,aQ h,d]
    conv=>rhs;rw[cc,aQ h]
    rfl
   .cases f:cc a with
    | nil=>exact absurd f (nz a)
    | cons x t =>
      rw[f] at d;rw[jj h f,jj h (by rw[d];rfl)];rfl
theorem tP(p:aq)(h:p.length<=4096):jy (p,())=some ((bg p).1,(bg p).2,()):=by
 unfold jy;dsimp only;rw[gC p<|by omega,aa];by_cases i:p=[]
 .subst i;rfl
 have c:parts p=cc p:=by unfold parts;rw[aM i]
 rcases pH p with ⟨d,f⟩|⟨a,b,rfl,d,f⟩
 .rw[f,c,nB p d];dsimp only;have g:nk (sub [p] 0<|minus (cC .i64 (len [p]) 1) 0,())=some ([],()):=by
   have e:sub [p] 0 (minus (cC .i64 (len [p]) 1) 0)=[]:=rfl;rw[e];exact zS [] (by simp) (by simp[aG])
  rw[show aX (len [p]) 0=false from rfl,ae,show inside 0 (cC .i64 (len [p]) 1) (len [p])=true from rfl,ab,g,aa];rfl
 .rw[f,c,zT a b d];dsimp only;have j:=BL a;rw[fQ] at h;simp only[dd] at h;have g:cC .i64 (len<|cc a++[b]) 1=(((cc a).length:Nat):Int):=by
   rw[bz,fQ,de (by simp only[dd,eB];omega) (by simp only[dd,eB];omega)];simp only[dd,eB];omega
  rw[g,aE (by rw[bz,fQ];simp only[dd,eB];omega),ae,aR (by omega) (by omega) (by rw[bz,fQ];omega),ab,gn,Iy,
   zS _ (by omega) (by rw[tO];omega),tO,aa,tK]
  simp[af]
def ow(d n:aq):aq:=if d=[]\/n=[] then d++n else d++47::n
theorem Fe(d n:aq)(c:d.length<=1048576)(e:n.length<=1048576):np (d,n,())=some (ow d n,()):=by
 unfold np ow;dsimp only;by_cases a:d=[]
 .rw[ch a,aA,ae,ab,bD (by omega),ab,aQ (.inl a)];rfl
 .rw[bj a,aw,ab];by_cases b:n=[]
  .rw[ch b,ab,bD (by omega),ab,aQ (.inr b)];rfl
  .rw[bj b,ae,bD (by simp only[dd,eB];omega),ab,bD (by simp only[ye,fQ,dd,eB];omega),ab,aM (by simp[a,b])];simp[app]
theorem yl(d n:aq)(c:d.length<=1048576)(e:n.length<=1048576):nq (d,n,())=some (ow d n,()):=by
 unfold nq ow;dsimp only;by_cases a:d=[]
 .rw[ch a,ab,aQ (.inl a),a];rfl
 .rw[bj a,ae];by_cases b:n=[]
  .rw[ch b,ab,aQ (.inr b),b,xN]
  .rw[bj b,ae,bD (by simp only[dd,eB];omega),ab,bD (by simp only[ye,fQ,dd,eB];omega),ab,aM (by simp[a,b])];simp[app]
def cd(x y:List aq):Bool:=decide (y.length<x.length/\x.take y.length=y)
theorem NM{b:Type}[DecidableEq b](Q:Nat->Nat->Nat×(Bool×Int×ai)×ai)(a:∀i j,(Q i j).1=j/\(Q i j).2.1.1=false):∀(r:List (b×b)) (i:Nat),∃q,sD (λi (_:ai) p=>some (if p.1=p.2 then Sum.inl () else Sum.inr (Q i 1))) (λi _=>Q i 0) r i ()=some q /\
  q.1=(if r.all (λp=>decide (p.1=p.2))=true then 0 else 1)/\q.2.1.1=false:=by
 intro r;induction r with
 | nil=>intro i;exact⟨_,rfl,(a _ _).1,(a _ _).2⟩
 | cons p r c =>
   intro i;unfold sD;by_cases h:p.1=p.2
   .simp only[aQ h];obtain⟨q,d,e,f⟩:=c (i+1);exact⟨q,d,by rw[e,Iz,dI h,QU],f⟩
   .simp only[aM h];exact⟨_,rfl,by rw[(a _ _).1,Iz,cJ h,ZS,aM (by simp)],(a _ _).2⟩
theorem Ym(x y:List aq)(m:x.length<=1048576)(n:y.length<=1048576):et (x,y,())=some (decide<|x=y,()):=by
 unfold et;dsimp only;rw[Sd];by_cases a:x.length=y.length
 .rw[dI a,aA,ae];have key:=oh (f:=cL (x,y,())) (x.zip y) (λ(_:ai) i=>((false,(i:Int),()),()))
   (λi _ p=>some (if p.1=p.2 then .inl () else .inr (1,(false,(i:Int),()),()))) (λi _=>(0,(false,(i:Int),()),())) (λ_ _=>True)
   (λu i p g o _=>by
    obtain⟨b,d⟩:=aa0 g;have k:=aD b;unfold cL;dsimp only;rw[ak<|aD b,ab,ao b,aa,ao d,aa];by_cases e:p.1=p.2
    .rw[ch e,aA,ae,aL (by omega),aQ e];rfl
    .rw[bj e,aw,ab,aM e];rfl)
   (λ_ _ _ _ _ _ _=>trivial)
   (λu _=>by
    have e:(x.zip y).length=x.length:=by rw[List.length_zip,a,ZY]
    unfold cL;dsimp only;rw[e,ay,ae])
   (λ_ _ _ _ _ h=>by cases h) () trivial
  obtain⟨q,b,d,l⟩:=NM (λi j=>(j,(false,(i:Int),()),())) (λ_ _=>⟨rfl,rfl⟩) (x.zip y) 0;have c:Loop (cL (x,y,())) ((false,(0:Int),()),())=some q:=key.trans b;rw[c,aa,d,l,Po a];by_cases e:x=y
  .rw[dI e,aQ rfl,bO,ab]
  .rw[cJ e,aM (by simp),ed,ae]
 .rw[cJ a,aw,ab,cJ λe=>a (by rw[e])]
theorem xz(p d:aq)(a:p.length<=4096)(b:d.length<=4096):cX (p,d,())=some (cd (parts p)<|parts d,()):=by
 unfold cX cd;dsimp only;have c:=eu p;have e:=eu d;rw[pG p<|by omega,aa,pG d (by omega),aa];dsimp only;rw[DD];by_cases h:(parts d).length<(parts p).length
 .rw[dI h,ab,show inside 0 (len<|parts d) (len<|parts p)=true from aR (by decide) (by rw[bz];omega) (by rw[bz,bz];omega),ab,AP,Ym _ _ (by rw[fB];omega) (by omega),aa,aa];simp[h]
 .rw[cJ h,ae,aa];simp[h]
theorem PF(p d:aq)(k:p.length<=4096)(r:d.length<=4096):rV (p,d,())=some (cd (parts p)<|parts d,()):=by
 unfold rV cd;dsimp only;have b:=eu p;have g:=eu d;rw[gC p<|by omega,aa,gC d (by omega),aa];dsimp only;rw[JQ];generalize parts p=x at b;generalize parts d=y at g;by_cases h:y.length<x.length
 .rw[cJ<|by omega,ae];have e:(x.zip y).length=y.length:=by rw[List.length_zip];omega
  have key:=oh (f:=jY (x,()) (y,())) (x.zip y) (λ(_:ai) i=>((false,(i:Int),()),()))
   (λi _ p=>some (if p.1=p.2 then .inl () else .inr (1,(false,(i:Int),()),()))) (λi _=>(0,(false,(i:Int),()),())) (λ_ _=>True)
   (λu i p k s _=>by
    obtain⟨b,g⟩:=aa0 k;have l:=aD b;unfold jY;dsimp only;rw[ak<|aD b,ak (aD g),ab,ab,ao b,aa,ao g,aa];by_cases e:p.1=p.2
    .rw[ch e,aA,ae,aL (by omega),aQ e];rfl
    .rw[bj e,aw,ab,aM e];rfl)
   (λ_ _ _ _ _ _ _=>trivial)
   (λu _=>by
    unfold jY;dsimp only;rw[e,ay,ae,ae])
   (λ_ _ _ _ _ h=>by cases h) () trivial
  obtain⟨q,m,n,o⟩:=NM (λi j=>(j,(false,(i:Int),()),())) (λ_ _=>⟨rfl,rfl⟩) (x.zip y) 0;have c:Loop (jY (x,()) (y,())) ((false,(0:Int),()),())=some q:=key.trans m;rw[c,aa,n,o,Sg,show min x.length y.length=y.length by omega,wQ];by_cases a:x.take y.length=y
  .rw[dI a,aQ rfl,bO,ab];simp[h,a]
  .rw[cJ a,aM (by simp),ed,ae];simp[a]
 .rw[dI<|by omega,ab];simp[h]
theorem NN(x:aq):hR (x,())=some (false,()):=by
 unfold hR;rw[kT];rfl
theorem abn(x y:aq):jg (x,y,())=some (Pn x y,()):=by
 unfold jg Pn;dsimp only;rw[NN,aa,NN,aa];dsimp only;rw[ae,ae,UW];rcases AR x y with h|rfl|h
 .rw[h,ab,aQ rfl]
 .rw[jv,ae,ae,aM (by simp),aQ rfl]
 .rw[pD h,ae,h,ab,aM (by simp),aM λe=>yf h e.symm]
theorem Gz(a b:aq)(G:a.length<=4096)(H:b.length<=4096):kX (a,b,())=some (cmpL (parts a)<|parts b,()):=by
 unfold kX;dsimp only;have z:=eu a;have A:=eu b;rw[pG a<|by omega,aa,pG b (by omega),aa];generalize parts a=x at z;generalize parts b=y at A;have run:∀(n i:Nat),x.length-i<=n->i<=x.length->i<=y.length->x.take i=y.take i->∃q,Loop (dq (x,()) (y,())) ((0,(i:Int),()),())=some q /\
   (if q.1=0 then x.length<=y.length/\cmpL (x.drop i) (y.drop i)=(if x.length<y.length then -1 else 0) else q.1=1/\q.2.1.1=cmpL (x.drop i) (y.drop i)):=by
  intro n;induction n with
  | zero =>
    intro i B p f g;obtain rfl:i=x.length:=by omega
    refine⟨(0,(0,(x.length:Int),()),()),?_,?_⟩
    .rw[aN];have:dq (x,()) (y,()) ((0,(x.length:Int),()),())=some (.inr (0,(0,(x.length:Int),()),())):=by
      unfold dq;dsimp only;rw[ay,ae]
     rw[this];rfl
    .rw[aQ rfl];refine⟨f,?_⟩;rw[Ix];by_cases h:x.length<y.length
     .rw[aQ h];cases hd:y.drop x.length with
      | nil=>have:=congrArg List.length hd;rw[kx] at this;simp only[eB] at this;omega
      | cons b r=>rfl
     .rw[aM h,GU (by omega)];rfl
  | succ n s =>
    intro i B p f g;by_cases hi:i<x.length
    .obtain⟨u,d⟩:∃u,x[i]?=some u:=⟨_,fN hi⟩;obtain⟨C,j⟩:=fq.1 d;have t:x.drop i=u::x.drop (i+1):=by rw[wM hi,j]
     rw[aN];by_cases w:i<y.length
     .obtain⟨v,k⟩:∃v,y[i]?=some v:=⟨_,fN w⟩;obtain⟨D,m⟩:=fq.1 k;have E:y.drop i=v::y.drop (i+1):=by rw[wM w,m]
      have st:dq (x,()) (y,()) ((0,(i:Int),()),())=if u=v then some (.inl ((0,((i+1:Nat):Int),()),())) else some (.inr (1,(Pn u v,(i:Int),()),())):=by
       unfold dq;dsimp only;rw[ak hi,ab,ao d,aa,yd,cJ (by omega),ae,ao k,aa,abn,aa];dsimp only;by_cases e:u=v
       .rw[aQ e,show Pn u v=0 by unfold Pn;rw[e,jv,aM (by simp),aQ rfl],show nt (aX 0 0)=false from rfl,ae,aL (by omega)]
       .rw[aM e,show aX (Pn u v) 0=false from aE (by unfold Pn;split<;>(try split)<;>first|decide|exact absurd (by assumption) e),aw,ab]
      rw[st,t,E,cmpL];by_cases e:u=v
      .rw[aQ e,aQ e];exact s (i+1) (by omega) (by omega) (by omega) (by rw[Be,Be,d,k,g,e])
      .rw[aM e,aM e];refine⟨_,rfl,?_⟩;rw[aM<|by simp];refine⟨rfl,?_⟩;show Pn u v=_
       unfold Pn;rw[aM e]
     .have st:dq (x,()) (y,()) ((0,(i:Int),()),())=some (.inr (1,(1,(i:Int),()),())):=by
       unfold dq;dsimp only;rw[ak hi,ab,ao d,aa,yd,dI (by omega),ab]
      rw[st];refine⟨_,rfl,?_⟩;rw[aM<|by simp,t,show y.drop i=[] from GU (by omega)];exact⟨rfl,rfl⟩
    .exact s i (by omega) p f g
 obtain⟨q,F,c⟩:=run x.length 0 (by omega) (by omega) (by omega) rfl;have o:Loop (dq (x,()) (y,())) ((0,(0:Int),()),())=some q:=F;rw[o,aa];rw[wR,wR] at c;by_cases h:q.1=0
 .rw[aQ h] at c;rw[h,bO,ab,DD,c.2];by_cases l:x.length<y.length
  .rw[dI l,ab,aQ l]
  .rw[cJ l,ae,aM l]
 .rw[aM h] at c;rw[c.1,ed,ae,c.2]
theorem zU(a b:aq)(G:a.length<=4096)(H:b.length<=4096):kZ (a,b,())=some (cmpL (parts a)<|parts b,()):=by
 unfold kZ;dsimp only;have z:=eu a;have A:=eu b;rw[gC a<|by omega,aa,gC b (by omega),aa];generalize parts a=x at z;generalize parts b=y at A;have run:∀(n i:Nat),x.length-i<=n->i<=x.length->i<=y.length->∃q,Loop (dt (x,()) (y,())) ((0,(i:Int),()),())=some q /\
   (if q.1=0 then cmpL (x.drop i) (y.drop i)=(if x.length<y.length then -1 else if y.length<x.length then 1 else 0) else q.1=1/\q.2.1.1=cmpL (x.drop i) (y.drop i)):=by
  intro n;induction n with
  | zero =>
    intro i B k o;obtain rfl:i=x.length:=by omega
    refine⟨(0,(0,(x.length:Int),()),()),?_,?_⟩
    .rw[aN];have:dt (x,()) (y,()) ((0,(x.length:Int),()),())=some (.inr (0,(0,(x.length:Int),()),())):=by
      unfold dt;dsimp only;rw[ay,ae,ae]
     rw[this];rfl
    .rw[aQ rfl,Ix];by_cases h:x.length<y.length
     .rw[aQ h];cases hd:y.drop x.length with
      | nil=>have:=congrArg List.length hd;rw[kx] at this;simp only[eB] at this;omega
      | cons b r=>rfl
     .rw[aM h,GU (by omega),aM (by omega)];rfl
  | succ n p =>
    intro i B k o;by_cases hi:i<x.length
    .obtain⟨u,s⟩:∃u,x[i]?=some u:=⟨_,fN hi⟩;obtain⟨C,f⟩:=fq.1 s;have t:x.drop i=u::x.drop (i+1):=by rw[wM hi,f]
     rw[aN];by_cases d:i<y.length
     .obtain⟨v,w⟩:∃v,y[i]?=some v:=⟨_,fN d⟩;obtain⟨D,g⟩:=fq.1 w;have E:y.drop i=v::y.drop (i+1):=by rw[wM d,g]
      have st:dt (x,()) (y,()) ((0,(i:Int),()),())=if u=v then some (.inl ((0,((i+1:Nat):Int),()),())) else some (.inr (1,(if iu u v=true then -1 else 1,((i:Int),())),())):=by
       unfold dt;dsimp only;rw[ak hi,ak d,ab,ab,ao s,aa,ao w,aa,aa,aa,UW];rcases AR u v with h|rfl|h
       .rw[h,ab,aM (yf h),aQ rfl]
       .rw[jv,ae,ae,aQ rfl,aL (by omega)]
       .rw[pD h,ae,h,ab,aM (λe=>yf h e.symm),aM (by simp)]
      rw[st,t,E,cmpL];by_cases e:u=v
      .rw[aQ e,aQ e];exact p (i+1) (by omega) (by omega) (by omega)
      .rw[aM e,aM e];refine⟨_,rfl,?_⟩;rw[aM<|by simp];exact⟨rfl,rfl⟩
     .have st:dt (x,()) (y,()) ((0,(i:Int),()),())=some (.inr (0,(0,(i:Int),()),())):=by
       unfold dt;dsimp only;rw[ak hi,DB,cJ d,ab,ae]
      rw[st];refine⟨_,rfl,?_⟩;rw[aQ rfl,t,show y.drop i=[] from GU (by omega),aM (by omega),aQ (by omega)];rfl
    .exact p i (by omega) k o
 obtain⟨q,F,c⟩:=run x.length 0 (by omega) (by omega) (by omega);have j:Loop (dt (x,()) (y,())) ((0,(0:Int),()),())=some q:=F;rw[j,aa];rw[wR,wR] at c;by_cases h:q.1=0
 .rw[aQ h] at c;rw[h,bO,ab,DD,DD,c];by_cases l:x.length<y.length
  .rw[dI l,ab,aQ l]
  .rw[cJ l,ae,aM l];by_cases m:y.length<x.length
   .rw[dI m,ab,aQ m]
   .rw[cJ m,ae,aM m]
 .rw[aM h] at c;rw[c.1,ed,ae,c.2]
theorem GA(s p:aq):cj (s,p,())=some (decide<|s.take p.length=p,()):=by
 unfold cj;dsimp only;rw[JQ];by_cases h:p.length<=s.length
 .rw[dI h,ab,show inside 0 (len p) (len s)=true from aR (by decide) (by rw[bz];omega) (by rw[bz,bz];omega),ab,AP,aa];rfl
 .rw[cJ h,ae,aa,cJ];intro e;have:=congrArg List.length e;rw[fB] at this;omega
theorem J2(s p:aq):cp (s,p,())=some (decide<|s.take p.length=p,()):=by
 unfold cp;dsimp only;rw[GA,aa]
theorem J3(s p:aq):mK (s,p,())=some (decide<|s.take p.length=p,()):=by
 unfold mK;dsimp only;rw[JQ];by_cases h:p.length<=s.length
 .rw[dI h,ab,show inside 0 (len p) (len s)=true from aR (by decide) (by rw[bz];omega) (by rw[bz,bz];omega),ab,AP,aa];rfl
 .rw[cJ h,ae,aa,cJ];intro e;have:=congrArg List.length e;rw[fB] at this;omega
theorem abo(s p:aq):jD (s,p,())=some (if s.take p.length=p then(s.drop p.length,true,()) else(s,false,())):=by
 unfold jD eY;dsimp only;rw[GA,aa];dsimp only;by_cases h:s.take p.length=p
 .have a:p.length<=s.length:=by
   have:=congrArg List.length h;rw[fB] at this;omega
  rw[dI h,aA,ae,show inside (len p) (len s) (len s)=true from aR (by rw[bz];omega) (by rw[bz,bz];omega) (re _),ab,aa,aQ h];rw[show sub s (len p) (minus (len s)<|len p)=s.drop p.length from mD s p.length a]
 .rw[cJ h,aw,ab,aa,aM h]
theorem L8(l:List aq)(s:aq)(m:l.length<=1048576):bu (l,s,())=some (decide<|s∈l,()):=by
 unfold bu er;dsimp only;have key:=oh (f:=bP (l,s,())) l (λ(_:ai) i=>((0,(i:Int),()),()))
  (λi _ x=>some (if s=x then .inr (1,((i:Int),(i:Int),()),()) else .inl ())) (λi _=>(0,(0,(i:Int),()),())) (λ_ _=>True)
  (λu i x g j _=>by
   unfold bP;dsimp only;rw[ak j,ab,ao g,aa];by_cases e:s=x
   .rw[ch e,ab,aQ e];rfl
   .rw[bj e,ae,aM e,aL (by omega)];rfl)
  (λ_ _ _ _ _ _ _=>trivial)
  (λu _=>by
   unfold bP;dsimp only;rw[ay,ae])
  (λ_ _ _ _ _ h=>by cases h) () trivial
 have run:∀(r:List aq) (i:Nat),∃q,sD (λi (_:ai) x=>some (if s=x then Sum.inr (1,((i:Int),(i:Int),()),()) else Sum.inl ())) (λi _=>((0:Nat),((0:Int),(i:Int),()),())) r i ()=some q /\
   (if s∈r then q.1=1/\0<=q.2.1.1 else q.1=0):=by
  intro r;induction r with
  | nil=>intro i;exact⟨_,rfl,by simp⟩
  | cons x r k =>
    intro i;unfold sD;by_cases h:s=x
    .simp only[aQ h];refine⟨_,rfl,?_⟩;rw[aQ<|by rw[h];exact mo ..];exact⟨rfl,by simp⟩
    .simp only[aM h];obtain⟨q,d,a⟩:=k (i+1);refine⟨q,d,?_⟩;by_cases c:s∈r
     .rw[aQ<|nX _ c];rw[aQ c] at a;exact a
     .rw[aM<|by simp[h,c]];rw[aM c] at a;exact a
 obtain⟨q,d,a⟩:=run l 0;have b:Loop (bP (l,s,())) ((0,(0:Int),()),())=some q:=key.trans d;rw[b,aa];by_cases h:s∈l
 .rw[aQ h] at a;rw[a.1,ed,ae,aa,dI h];dsimp only;rw[b6 a.2]
 .rw[aM h] at a;rw[a,bO,ab,aa,cJ h];rfl
def wh:aq:=[46,119,104,46]
def kt(n:aq):Int×aq :=
 if n.take 4=wh then(if n.drop 4=[46,119,104,46,46,111,112,113] then(2,[]) else if(n.drop 4).take 4=wh\/n.drop 4=[]\/n.drop 4=[46]\/n.drop 4=[46,46] then(3,[]) else(1,n.drop 4)) else(0,n)
theorem SF(n:aq):qc (n,())=some ((kt n).1,(kt n).2,()):=by
 unfold qc kt;dsimp only;rw[show([46,119,104,46]:aq)=wh from rfl,abo,aa,show wh.length=4 from rfl];by_cases h:n.take 4=wh
 .have e:n=wh++n.drop 4:=by rw[<-h,uu]
  rw[aQ h,aQ h];dsimp only;rw[aA,ae];generalize n.drop 4=r at e;by_cases a:r=[46,119,104,46,46,111,112,113]
  .rw[aQ a,ch (by rw[e,a];rfl),ab]
  .rw[aM a,bj (by rw[e];intro q;exact a (by simpa [wh] using q)),ae,J2,aa];dsimp only;rw[show wh.length=4 from rfl];by_cases b:r.take 4=wh
   .rw[aQ<|.inl b,dI b,aA,ae,aa,ab]
   .rw[cJ b,aw,ab,L8 _ _ (by decide),aa,aa,JR];have:r∈([[],[46],[46,46]]:List aq)↔(r=[]\/r=[46]\/r=[46,46]):=by simp
    by_cases c:r=[]\/r=[46]\/r=[46,46]
    .rw[aQ<|this.2 c,aQ (.inr c)]
    .rw[aM<|λq=>c (this.1 q),aM λq=>q.elim b c]
 .rw[aM h,aM h];rfl
theorem GB(n:aq):qe (n,())=some ((kt n).1,(kt n).2,()):=by
 unfold qe kt;dsimp only;rw[J3,J3];by_cases h:n.take 4=wh
 .have e:n=wh++n.drop 4:=by rw[<-h,uu]
  rw[aQ h];generalize g:n.drop 4=r at e;by_cases a:r=[46,119,104,46,46,111,112,113]
  .rw[aQ a,ch (by rw[e,a];rfl),ab]
  .rw[aM a,bj (by rw[e];intro q;exact a (by simpa [wh] using q)),ae,aa];dsimp only;have i:decide (n.take ([46,119,104,46,46,119,104,46]:aq).length=[46,119,104,46,46,119,104,46])=decide (r.take 4=wh):=by
    rw[e];apply gi.2;simp[wh]
   have j:bt n [46,119,104,46]=decide (r=[]):=by
    rw[e];unfold bt;apply gi.2;simp[wh]
   have k:bt n [46,119,104,46,46]=decide (r=[46]):=by
    rw[e];unfold bt;apply gi.2;simp[wh]
   have l:bt n [46,119,104,46,46,46]=decide (r=[46,46]):=by
    rw[e];unfold bt;apply gi.2;simp[wh]
   have m:decide (n.take ([46,119,104,46]:aq).length=[46,119,104,46])=true:=dI h;rw[i,j,k,l,m];have o:aj (aj (nt<|aj (nt<|aj (nt<|decide<|r.take 4=wh) (decide<|r=[]) true) (decide<|r=[46]) true) (decide<|r=[46,46]) true)=λ(x y:Option (Int×aq×ai))=>if r.take 4=wh\/r=[]\/r=[46]\/r=[46,46] then x else y:=by
    funext x y;by_cases b1:r.take 4=wh
    .rw[aQ<|.inl b1];simp[b1,aj,nt]
    .by_cases c:r=[]
     .rw[aQ<|.inr<|.inl c];simp[c,aj,nt]
     .by_cases d:r=[46]
      .rw[aQ<|.inr<|.inr<|.inl d];simp[d,aj,nt]
      .by_cases f:r=[46,46]
       .rw[aQ<|.inr<|.inr<|.inr f];simp[f,aj,nt]
       .rw[aM<|by simp[b1,c,d,f]];simp[b1,c,d,f,aj,nt]
   rw[o];dsimp only;by_cases b:r.take 4=wh\/r=[]\/r=[46]\/r=[46,46]
   .rw[aQ b,aQ b]
   .rw[aM b,aM b,aa];dsimp only;have p:4<=n.length:=by rw[e];simp[wh]
    rw[ab,show inside 4 (len n) (len n)=true from aR (by decide) (by rw[bz];omega) (re _),ab,show sub n 4 (minus (len n) 4)=n.drop 4 from mD n 4 p,g]
 .rw[aM h];have s:n≠[46,119,104,46,46,119,104,46,46,111,112,113]:=λq=>h (by rw[q];rfl);have t:n≠[46,119,104,46]:=λq=>h (by rw[q];rfl);have u:n≠[46,119,104,46,46]:=λq=>h (by rw[q];rfl);have v:n≠[46,119,104,46,46,46]:=λq=>h (by rw[q];rfl);have w:¬n.take ([46,119,104,46,46,119,104,46]:aq).length=[46,119,104,46,46,119,104,46]:=λq=>h (by
   have:=congrArg (List.take 4) q;rw[Bs] at this;exact this)
  rw[bj s,ae,aa];dsimp only;rw[cJ w,bj t,bj u,bj v];rw[show aj (aj (nt<|aj (nt<|aj (nt false) false true) false true) false true)=λ(x y:Option (Int×aq×ai))=>y from rfl];dsimp only;rw[aa];dsimp only;rw[cJ<|by exact h,ae]
theorem jF{a b:Bool}:aj a b false=(a&&b):=by cases a<;>rfl
theorem Yn{s:aq}(h:(j6 s).2=0):kH s=true/\(j6 s).1=aG (names s):=by
 unfold j6 at h⊢;cases a:kH s with
 | true=>simp
 | false=>rw[a] at h;simp at h
theorem pI{s:aq}(h:kH s=true):(names s).all qh=true/\(names s).length<=8/\(aG<|names s).length<=96:=by
 unfold kH at h;simp only[dv,kQ] at h;exact⟨h.1.1.1,h.1.2,h.2⟩
theorem Vf{l:List aq}(h:∀x∈l,47∉x/\x≠[]):(aG l).head?≠some 47:=by
 cases l with
 | nil=>simp[aG]
 | cons x r =>
   obtain⟨c,a⟩:=h x (mo ..);have e:(aG (x::r)).head?=x.head?:=by
    cases x with
    | nil=>exact absurd rfl a
    | cons b x=>cases r<;>simp[aG]
   rw[e];cases x with
   | nil=>exact absurd rfl a
   | cons b x =>
     intro q;have:b=47:=aI q;exact c (by rw[this];exact mo ..)
theorem J4(l:List aq)(a:List aq)(h:∀x∈a++l,47∉x/\x≠[]):l.foldl ow (aG a)=aG (a++l):=by
 induction l generalizing a with
 | nil=>simp
 | cons x r d =>
   have hx:=h x (by simp);have e:ow (aG a) x=aG (a++[x]):=by
    unfold ow;cases a with
    | nil=>rw[aG,aQ (.inl rfl)];rfl
    | cons y q =>
      have b:aG (y::q)≠[]:=by
       have:=(h y<|by simp).2;cases q with
       | nil=>rw[aG];exact this
       | cons z q=>rw[aG];simp
      rw[aM<|by simp[b,hx.2]];have gen:∀(y:aq) (q:List aq),aG (y::q++[x])=aG (y::q)++47::x:=by
       intro y q;induction q generalizing y with
       | nil=>rfl
       | cons z q c =>
         rw[zi,zi,aG,<-zi,c z];rw[aG];simp
      exact(gen y q).symm
   rw[QQ,e,d (a++[x]) (by intro z f;exact h z (by simpa using f))];simp
theorem zV{l:List aq}(h:∀x∈l,47∉x/\x≠[])(c:l≠[]):bg (aG l)=(aG l.dropLast,l.getLast c):=by
 have d:cc (aG l)=l:=DN l c λx g=>(h x g).1;rcases pH (aG l) with ⟨e,f⟩|⟨a,b,i,e,f⟩
 .rw[nB _ e] at d;rw[f];generalize aG l=p at d;subst d;rfl
 .rw[f];rw[i,zT a b e] at d;subst d;rw[List.dropLast_concat,List.getLast_concat,tO]
set_option maxRecDepth 100000
abbrev uY:=(Sb×Sb×Sb×ai)
abbrev PG:=(Sb×(List Sb)×Sb×Sb×(List uY)×ai)
abbrev abp:=((List<|Sb×(List Sb)×Sb×Sb×Sb×(List uY)×ai)×(List PG)×(List<|Sb×Sb×(List Sb)×Sb×Int×Int×Bool×ai)×(List Sb)×(List<|Sb×Int×ai)×ai)
abbrev qi:=(Sb×(List Sb)×ai)
abbrev mN:=(Int×Int×ai)
abbrev abq:=(Sb×(List Sb)×Sb×Sb×Sb×(List uY)×ai)
abbrev aeP:=(Sb×Sb×(List Sb)×Sb×Int×Int×Bool×ai)
abbrev PH:=(Bool×Int×ai)
abbrev ais:=(Nat×mN×ai×Sb×ai)
abbrev ait:=(mN×ai×Sb×ai)
abbrev vK:=((ai×Int×ai)×(List Sb)×ai)
abbrev H3:=(Nat×mN×Sb×ai)
abbrev PI:=(Sb×Int×Int×ai)
abbrev agQ:=(aq×((List aq)×(aq×(aq×((List<|aq×(aq×(aq×ai)))×ai)))))
abbrev H4:=(mN×Sb×ai)
abbrev WM:=(Nat×PH×ai)
abbrev agR:=((Int×ai)×ai×(List qi)×ai)
abbrev agS:=(Int×Sb×Int×Sb×ai)
abbrev agT:=(Nat×mN×ai×uY×ai)
abbrev agU:=(Nat×mN×(List Sb)×ai)
abbrev agV:=(Int×(List aeP)×(List PG)×(List abq)×ai)
abbrev agW:=((Nat×(ai×Int×ai)×(List Sb)×ai))
abbrev agX:=(mN×ai×uY×ai)
abbrev agY:=(mN×(List Sb)×ai)
abbrev WN:=(PH×ai)
abbrev agZ:=((Nat×(Int×ai)×ai×(List qi)×ai))
abbrev ag0:=(Nat×mN×ai×PG×ai)
abbrev ag1:=(aq×(aq×(aq×ai)))
abbrev H5:=(ai×Int×ai)
def nC(x:(List qi)×Sb×ai)(a:mN×Sb×ai):Option (H4⊕H3) :=
 aj (aY a.1.2.1<|len x.1)
 (af (idx x.1 a.1.2.1) λb=>aj (bt b.1 a.2.1)
 (some<|Sum.inr (1,(a.1.2.1,a.1.2.1,()),a.2.1,()))
 (some<|Sum.inl ((a.1.1,aF i64 a.1.2.1 1,()),a.2.1,())))
 (some<|Sum.inr (0,(a.1.1,a.1.2.1,()),a.2.1,()))
def gS(x:(List qi)×Sb×ai)(a:mN×Sb×ai):Option (H4⊕H3) :=
 aj (aY a.1.2.1<|len x.1)
 (af (idx x.1 a.1.2.1) λb=>af (bu (b.2.1,a.2.1,())) λc=>aj c.1
 (some<|Sum.inr (1,(a.1.2.1,a.1.2.1,()),a.2.1,()))
 (some<|Sum.inl ((a.1.1,aF i64 a.1.2.1 1,()),a.2.1,())))
 (some<|Sum.inr (0,(a.1.1,a.1.2.1,()),a.2.1,()))
def nE(x:(List qi)×Sb×ai)(c:Nat×mN×Sb×ai)(a:H5×(List Sb)×ai):Option (vK⊕vK) :=
 dh (aj (aY a.1.2.1<|len x.1)
 (af (idx x.1 a.1.2.1) λb=>af (cp (b.1,c.2.2.1,())) λd=>af (aj d.1
 (aj (fits<|plus (len a.2.1)<|len ([b.1]:List Sb))
 (some (((),()),app a.2.1 ([b.1]:List Sb),()))
 none)
 (some (((),()),a.2.1,()))) λe=>some (Sum.inl (((),aF i64 a.1.2.1 1,()),e.2.1,())))
 (some<|Sum.inr (0,((),a.1.2.1,()),a.2.1,())))
def Ff(x:(List qi)×Sb×ai)(c:Nat×mN×Sb×ai)(a:H5×(List Sb)×ai):Option (vK⊕vK) :=
 dh (aj (aY a.1.2.1<|len x.1)
 (af (idx x.1 a.1.2.1) λb=>af (cp (b.1,c.2.2.1,())) λd=>af (aj d.1
 (aj (fits<|plus (len a.2.1)<|len ([b.1]:List Sb))
 (some (((),()),app a.2.1 ([b.1]:List Sb),()))
 none)
 (some (((),()),a.2.1,()))) λe=>some (Sum.inl (((),aF i64 a.1.2.1 1,()),e.2.1,())))
 (some<|Sum.inr (0,((),a.1.2.1,()),a.2.1,())))
def Fg(x:(List qi)×Sb×ai)(a:mN×Sb×ai):Option (H4⊕H3) :=
 aj (aY a.1.2.1<|len x.1)
 (af (idx x.1 a.1.2.1) λb=>af (bu (b.2.1,a.2.1,())) λc=>aj c.1
 (some<|Sum.inr (1,(a.1.2.1,a.1.2.1,()),a.2.1,()))
 (some<|Sum.inl ((a.1.1,aF i64 a.1.2.1 1,()),a.2.1,())))
 (some<|Sum.inr (0,(a.1.1,a.1.2.1,()),a.2.1,()))
def Fh(x:(List qi)×Sb×ai)(c:Nat×mN×Sb×ai)(a:H5×(List Sb)×ai):Option (vK⊕vK) :=
 dh (aj (aY a.1.2.1<|len x.1)
 (af (idx x.1 a.1.2.1) λb=>af (cp (b.1,c.2.2.1,())) λd=>af (aj d.1
 (aj (fits<|plus (len a.2.1)<|len ([b.1]:List Sb))
 (some (((),()),app a.2.1 ([b.1]:List Sb),()))
 none)
 (some (((),()),a.2.1,()))) λe=>some (Sum.inl (((),aF i64 a.1.2.1 1,()),e.2.1,())))
 (some<|Sum.inr (0,((),a.1.2.1,()),a.2.1,())))
def Fi(x:(List qi)×Sb×ai)(c:Nat×mN×Sb×ai)(a:H5×(List Sb)×ai):Option (vK⊕vK) :=
 dh (aj (aY a.1.2.1<|len x.1)
 (af (idx x.1 a.1.2.1) λb=>af (cp (b.1,c.2.2.1,())) λd=>af (aj d.1
 (aj (fits<|plus (len a.2.1)<|len ([b.1]:List Sb))
 (some (((),()),app a.2.1 ([b.1]:List Sb),()))
 none)
 (some (((),()),a.2.1,()))) λe=>some (Sum.inl (((),aF i64 a.1.2.1 1,()),e.2.1,())))
 (some<|Sum.inr (0,((),a.1.2.1,()),a.2.1,())))
def r5(x:(List qi)×Sb×ai):Option (Sb×Int×ai) :=
 af (Loop (nC x) (((0:Int),(0:Int),()),x.2.1,())) (λd=>aj (dJ d.1 0)
 (aj (cu 0<|-1)
 (some (x.2.1,(0:Int),()))
 (af (Loop (gS x) (((0:Int),(0:Int),()),x.2.1,())) λb=>aj (dJ b.1 0)
 (aj (cu 0<|-1)
 (af (idx x.1 (-1:Int)) λa=>some (a.1,(0:Int),()))
 (af (Loop (nE x b) (((),(0:Int),()),([]:List Sb),())) λa=>aj (aj (nt<|aj (nt<|bt b.2.2.1 ([]:aq))
 (cu 6<|len b.2.2.1)
 true)
 (aX (len a.2.1) 0)
 true)
 (some (([]:aq),(3:Int),()))
 (aj (aY 1<|len a.2.1)
 (some (([]:aq),(9:Int),()))
 (aj (within 0<|len a.2.1)
 (af (idx a.2.1 (0:Int)) λc=>some (c,(0:Int),()))
 none))))
 (aj (cu 0 b.2.1.1)
 (af (idx x.1 b.2.1.1) λa=>some (a.1,(0:Int),()))
 (af (Loop (Ff x b) (((),(0:Int),()),([]:List Sb),())) λa=>aj (aj (nt<|aj (nt<|bt b.2.2.1 ([]:aq))
 (cu 6<|len b.2.2.1)
 true)
 (aX (len a.2.1) 0)
 true)
 (some (([]:aq),(3:Int),()))
 (aj (aY 1<|len a.2.1)
 (some (([]:aq),(9:Int),()))
 (aj (within 0<|len a.2.1)
 (af (idx a.2.1 (0:Int)) λc=>some (c,(0:Int),()))
 none))))))
 (aj (cu 0 d.2.1.1)
 (some (x.2.1,(0:Int),()))
 (af (Loop (Fg x) (((0:Int),(0:Int),()),x.2.1,())) λb=>aj (dJ b.1 0)
 (aj (cu 0<|-1)
 (af (idx x.1 (-1:Int)) λa=>some (a.1,(0:Int),()))
 (af (Loop (Fh x b) (((),(0:Int),()),([]:List Sb),())) λa=>aj (aj (nt<|aj (nt<|bt b.2.2.1 ([]:aq))
 (cu 6<|len b.2.2.1)
 true)
 (aX (len a.2.1) 0)
 true)
 (some (([]:aq),(3:Int),()))
 (aj (aY 1<|len a.2.1)
 (some (([]:aq),(9:Int),()))
 (aj (within 0<|len a.2.1)
 (af (idx a.2.1 (0:Int)) λc=>some (c,(0:Int),()))
 none))))
 (aj (cu 0 b.2.1.1)
 (af (idx x.1 b.2.1.1) λa=>some (a.1,(0:Int),()))
 (af (Loop (Fi x b) (((),(0:Int),()),([]:List Sb),())) λa=>aj (aj (nt<|aj (nt<|bt b.2.2.1 ([]:aq))
 (cu 6<|len b.2.2.1)
 true)
 (aX (len a.2.1) 0)
 true)
 (some (([]:aq),(3:Int),()))
 (aj (aY 1<|len a.2.1)
 (some (([]:aq),(9:Int),()))
 (aj (within 0<|len a.2.1)
 (af (idx a.2.1 (0:Int)) λc=>some (c,(0:Int),()))
 none)))))))
def j7(x:abp×ai):Option ((List qi)×ai) :=
 af (yg ((3:Int),((0:Int),x.1.2.2.1,([]:List PG),([]:List abq),()),())) (λa=>some (a.1,()))
def cY(x:abp×Sb×ai):Option (Sb×Int×ai) :=
 af (j7 (x.1,())) (λb=>af (r5 (b.1,x.2.1,())) λa=>some (a.1,a.2.1,()))
def vL(x:Int×ai):Option (Sb×ai) :=
 aj (aY 16 0)
 none
 (aj (aY 8 0)
 none
 (af (qa (bh ([jC IntKind.u8<|mu i64 x.1 16,jC IntKind.u8 (mu i64 x.1 8),jC IntKind.u8 x.1]:List (Int)),())) λa=>some (a.1,())))
def fW(x:(List qi)×Int×ai)(a:mN×Sb×ai):Option (H4⊕H3) :=
 aj (aY a.1.2.1<|len x.1)
 (af (idx x.1 a.1.2.1) λb=>aj (bt b.1 a.2.1)
 (some<|Sum.inr (1,(a.1.2.1,a.1.2.1,()),a.2.1,()))
 (some<|Sum.inl ((a.1.1,aF i64 a.1.2.1 1,()),a.2.1,())))
 (some<|Sum.inr (0,(a.1.1,a.1.2.1,()),a.2.1,()))
def jl(x:(List qi)×Int×ai)(a:PI×ai):Option ((PI×ai)⊕(Nat×PI×ai)) :=
 aj (aY a.1.2.2.1<|aF i64 (len x.1) 1)
 (aj (aX 16777216 0)
 none
 (af (vL (iE (aF i64 (lP i64 x.2.1 16777215) a.1.2.2.1) 16777216,())) λb=>af (Loop (fW x) (((0:Int),(0:Int),()),b.1,())) λc=>aj (dJ c.1 0)
 (aj (nt<|cu 0<|-1)
 (some<|Sum.inr (1,(b.1,(0:Int),a.1.2.2.1,()),()))
 (some<|Sum.inl ((a.1.1,a.1.2.1,aF i64 a.1.2.2.1 1,()),())))
 (aj (nt<|cu 0 c.2.1.1)
 (some<|Sum.inr (1,(b.1,(0:Int),a.1.2.2.1,()),()))
 (some<|Sum.inl ((a.1.1,a.1.2.1,aF i64 a.1.2.2.1 1,()),())))))
 (some<|Sum.inr (0,(a.1.1,a.1.2.1,a.1.2.2.1,()),()))
def qj(x:(List qi)×Int×ai):Option (Sb×Int×ai) :=
 aj (cu 32<|len x.1)
 (some (([]:aq),(5:Int),()))
 (af (Loop (jl x) ((([]:aq),(0:Int),(0:Int),()),())) λa=>aj (dJ a.1 0)
 (some (([]:aq),(5:Int),()))
 (some (a.2.1.1,a.2.1.2.1,())))
def jm(x:(List uY)×(List uY)×ai)(a:PH×ai):Option (WN⊕WM) :=
 aj (aj (aY a.1.2.1<|len x.1)
 (aY a.1.2.1<|len x.2.1)
 false)
 (af (idx x.1 a.1.2.1) λb=>af (idx x.2.1 a.1.2.1) λc=>aj (nt<|an (bt b.1 c.1)<|an (bt b.2.1 c.2.1)<|an (bt b.2.2.1 c.2.2.1) true)
 (some<|Sum.inr (1,(false,a.1.2.1,()),()))
 (some<|Sum.inl ((a.1.1,aF i64 a.1.2.1 1,()),())))
 (some<|Sum.inr (0,(a.1.1,a.1.2.1,()),()))
def fX(x:(List uY)×(List uY)×ai):Option (Bool×ai) :=
 aj (nt<|aX (len x.1)<|len x.2.1)
 (some (false,()))
 (af (Loop (jm x) ((false,(0:Int),()),())) λa=>aj (dJ a.1 0)
 (some (true,()))
 (some (a.2.1.1,())))
def nF(x:(List uY)×ai)(a:PH×ai):Option (WN⊕WM) :=
 aj (aY a.1.2.1<|len x.1)
 (af (idx x.1 a.1.2.1) λb=>af (mL (b.1,())) λc=>aj (nt c.1)
 (some<|Sum.inr (1,(false,a.1.2.1,()),()))
 (af (idx x.1 a.1.2.1) λd=>aj (aY 64<|len d.2.2.1)
 (some<|Sum.inr (1,(false,a.1.2.1,()),()))
 (af (idx x.1 a.1.2.1) λe=>af (idx x.1 a.1.2.1) λf=>af (uO (f.2.2.1,())) λg=>aj (nt<|bt e.2.1 g.1)
 (some<|Sum.inr (1,(false,a.1.2.1,()),()))
 (aj (aY 0 a.1.2.1)
 (af (idx x.1<|cC i64 a.1.2.1 1) λh=>af (idx x.1 a.1.2.1) λi=>aj (nt<|iu h.1 i.1)
 (some<|Sum.inr (1,(false,a.1.2.1,()),()))
 (some<|Sum.inl ((a.1.1,aF i64 a.1.2.1 1,()),())))
 (some<|Sum.inl ((a.1.1,aF i64 a.1.2.1 1,()),()))))))
 (some<|Sum.inr (0,(a.1.1,a.1.2.1,()),()))
def lH(x:(List uY)×ai):Option (Bool×ai) :=
 af (Loop (nF x) ((false,(0:Int),()),())) (λa=>aj (dJ a.1 0)
 (some (cu (len x.1) 4,()))
 (some (a.2.1.1,())))
end Go.Ge
namespace Go.Ge
variable [Lp]
def PJ(a:Tx)(x:Nm):List Tx:=if x.1.take a.length=a then [x.1] else []
def PK(l:List Nm)(a:Tx):List Tx:=l.flatMap (PJ a)
def uk(b:Tx)(f:List Tx):Tx×Int×ai:=if b=[]\/6<=b.length then([],3,()) else match f with|[]=>([],3,())|[a]=>(a,0,())|_=>([],9,())
def cq(l:List Nm)(a:Tx):Tx×Int×ai:=if ∃x∈l,x.1=a then(a,0,()) else
 match l.find? (λx=>decide (a∈x.2.1)) with|some x=>(x.1,0,())|none=>uk a (PK l a)
theorem PL(c:Tx)(f:List Tx):aj (aj (nt<|aj (nt<|bt c ([]:Tx)) (cu (6:Int)<|@len UInt8 c) true) (aX (@len Tx f) (0:Int)) true) (some (([]:Tx),(3:Int),()))
  (aj (aY (1:Int)<|@len Tx f) (some (([]:Tx),(9:Int),()))<|aj (within (0:Int)<|@len Tx f) (af (@idx Tx f (0:Int)) λ(g:Tx)=>some (g,(0:Int),())) none)=some (uk c f):=by
 have i:bt c ([]:Tx)=decide (c=[]):=rfl;have j:cu (6:Int) (@len UInt8 c)=decide (6<=c.length):=by unfold cu len;apply gi.2;omega
 unfold uk;rw[i,j];by_cases d:c=[]
 .rw[aQ<|.inl d,dI d];rfl
 .rw[cJ d];by_cases e:6<=c.length
  .rw[aQ<|.inr e,dI e];rfl
  .rw[aM<|by rintro(h|h);exact d h;exact e h,cJ e]
   match f with
   | []=>rfl
   | [a]=>rfl
   | a::b::r =>
     have:aY (1:Int) (@len Tx (a::b::r))=true:=aK (by simp only[len,dd];omega);have k:aX (@len Tx (a::b::r)) (0:Int)=false:=aE (by simp only[len,dd];omega);rw[k,this];rfl
theorem Vg(l:List Nm)(a:Tx)(j:l.length<=1000000)(q:Nat×(Int×Int×ai)×Tx×ai)(c:q.2.2.1=a) :
  Loop (nE (l,a,()) q) (((),(0:Int),()),([]:List Tx),())=some (((),(l.length:Int),()),PK l a,()):=by
 refine xq l (λb i=>(((),i,()),b,())) (PJ a) _ (by omega) (λi x d e f=>?_) ?_
 .have k:((l.take i).flatMap<|PJ a).length<=l.length:=by
   have:=ny (g:=PJ a) (λx=>by unfold PJ;split<;>simp) l i;omega
  unfold nE;dsimp only;rw[ak e,ab,ao d,aa,c,J2,aa,f];unfold PJ;by_cases h:x.1.take a.length=a
  .rw[dI h,aQ h,ab];have:fits (plus (@len Tx<|(l.take i).flatMap<|PJ a)<|@len Tx ([x.1]:List Tx))=true:=bD (by show _+1<=_;omega);unfold PJ at this;rw[this];rfl
  .rw[cJ h,aM h];rw[xN];rfl
 .unfold nE;dsimp only;rw[ay,ae];rfl
theorem Ho(l:List Nm)(a:Tx)(d:Small l)(e:l.length<=1000000):r5 (l,a,())=some (cq l a):=by
 unfold r5;dsimp only;have mid:∀{f1:(Int×Int×ai)×Tx×ai->Option (((Int×Int×ai)×Tx×ai)⊕(Nat×(Int×Int×ai)×Tx×ai))},f1=gS (l,a,()) ->
   (∃(i:Nat) (x:Nm),l[i]?=some x/\decide (a∈x.2.1)=true/\(∀(j:Nat) (y:Nm),j<i->l[j]?=some y->decide (a∈y.2.1)=false)/\Loop f1 (((0:Int),(0:Int),()),a,())=some (1,((i:Int),(i:Int),()),a,())) \/
   ((∀(i:Nat) (x:Nm),l[i]?=some x->decide (a∈x.2.1)=false)/\Loop f1 (((0:Int),(0:Int),()),a,())=some (0,((0:Int),len l,()),a,())):=by
  intro f1 q;subst q;exact ko (f:=gS (l,a,())) l (λi=>(((0:Int),i,()),a,())) (λ_ x=>decide (a∈x.2.1)) (λi x=>(1,((i:Int),(i:Int),()),a,())) (0,((0:Int),len l,()),a,()) d.1 (λi x b c g=>by
   unfold gS;dsimp only;rw[ak c,ab,ao b,aa,zN x.2.1 a (d.2 x<|dY b),aa,hJ,g];by_cases h:a∈x.2.1<;>simp[h]) (by unfold gS;dsimp only;rw[ay,ae];rfl)
 rcases ko (f:=nC (l,a,())) l (λi=>(((0:Int),i,()),a,())) (λ_ x=>decide (x.1=a)) (λi x=>(1,((i:Int),(i:Int),()),a,())) (0,((0:Int),len l,()),a,()) d.1 (λi x b c g=>by
  unfold nC;dsimp only;rw[ak c,ab,ao b,aa,hJ,g];by_cases h:x.1=a<;>simp[bt,h]) (by unfold nC;dsimp only;rw[ay,ae];rfl) with ⟨i,x,b,k,p,h⟩|⟨m,h⟩
 .rw[h,aa];dsimp only;rw[show dJ 1 0=false from rfl,ae,b6 (by omega),ab];unfold cq;rw[aQ ⟨x,dY b,gM k⟩]
 .rw[h,aa];dsimp only;rw[show dJ 0 0=true from rfl,ab,show cu (0:Int) (-1)=false from rfl,ae];have n:¬∃x∈l,x.1=a:=by
   rintro⟨x,b,r⟩;obtain⟨i,c⟩:=bp.1 b;have:=m i x c;simp[r] at this
  unfold cq;rw[aM n];rcases mid (f1:=gS (l,a,())) rfl with ⟨i,x,b,k,p,h⟩|⟨m,h⟩
  .rw[h,aa];dsimp only;rw[show dJ 1 0=false from rfl,ae,b6 (by omega),ab,ao b,aa];have:l.find? (λx=>decide (a∈x.2.1))=some x:=by
    rw[adO];refine⟨k,i,aD b,?_,λj o=>?_⟩
    .have:=fN (aD b);rw[b] at this;exact(aI this).symm
    .have s:=aD b;have:=p j l[j] o (fN<|by omega);simpa using this
   rw[this]
  .rw[h,aa];dsimp only;rw[show dJ 0 0=true from rfl,ab,ae,Vg l a e _ rfl,aa];have:l.find? (λx=>decide (a∈x.2.1))=none:=by
    rw[QH];intro x b;obtain⟨i,c⟩:=bp.1 b;have:=m i x c;simpa using this
   rw[this];exact PL a (PK l a)
set_option maxRecDepth 100000
abbrev b8:=(Sb×Int×Int×Sb×Sb×ai)
abbrev WO:=((Int×Int×ai×ai)×ai×Sb×(List b8)×ai)
abbrev abr:=(aq×(Int×(Int×(aq×(aq×ai)))))
abbrev y4:=(Int×Int×ai)
abbrev abt:=(((Bool×Int×ai)×ai)⊕(Nat×(Bool×Int×ai)×ai))
def aS(l:List abr)(x:(Int×((List abr)×ai))):Option (List abr):=E4 l x.1 x.2.1
def r8(x:Sb×ai):Option (Bool×ai) :=
 af (om (x.1,())) (λa=>af (fD (x.1,())) λb=>af (qc (b.2.1,())) λc=>some (aj (aj (aj (aj (aX a.2.1 0)
 (bt a.1 x.1)
 false)
 (nt<|bt x.1 ([]:aq))
 false)
 (aj (cu (len x.1) 92)
 (cu (len b.2.1) 28)
 false)
 false)
 (aX c.1 0)
 false,()))
def xA(x:b8×ai):Option (Bool×ai) :=
 af (r8 (x.1.1,())) (λb=>aj (aj (nt<|aj (nt<|nt b.1)
 (aY x.1.2.2.1 0)
 true)
 (aY 4095 x.1.2.2.1)
 true)
 (some (false,()))
 (aj (aX x.1.2.1 1)
 (some (aj (bt x.1.2.2.2.2.1 ([]:aq))
 (cu (len x.1.2.2.2.1) 8192)
 false,()))
 (aj (aX x.1.2.1 2)
 (some (aj (bt x.1.2.2.2.2.1 ([]:aq))
 (bt x.1.2.2.2.1 ([]:aq))
 false,()))
 (aj (aX x.1.2.1 3)
 (af (aj (aj (aj (bt x.1.2.2.2.1 ([]:aq))
 (nt<|bt x.1.2.2.2.2.1 ([]:aq))
 false)
 (cu (len x.1.2.2.2.2.1) 100)
 false)
 (af (cN (x.1.2.2.2.2.1,(0:Int),())) λa=>some (aY a.1 0))
 (some false)) λa=>some (a,()))
 (some (false,()))))))
def la(x:b8×Sb×ai):Option (Int×ai) :=
 af (kX (x.1.1,x.2.1,())) (λa=>some (a.1,()))
def iM(x:(List b8)×Sb×ai)(a:y4×ai):Option ((y4×ai)⊕(y4×ai)) :=
 dh (aj (aY a.1.1 a.1.2.1)
 (aj (aY 1 0)
 none
 (af (idx x.1<|jC i64<|mu IntKind.u64 (jC IntKind.u64<|aF i64 a.1.1 a.1.2.1) 1) λc=>af (la (c,x.2.1,())) λb=>some (Sum.inl ((((aj (aY b.1 0)
 ((aF i64 (jC i64<|mu IntKind.u64 (jC IntKind.u64<|aF i64 a.1.1 a.1.2.1) 1) 1,a.1.2.1,()),())
 ((a.1.1,jC i64<|mu IntKind.u64 (jC IntKind.u64<|aF i64 a.1.1 a.1.2.1) 1,()),())).1).1,(((aj (aY b.1 0)
 ((aF i64 (jC i64<|mu IntKind.u64 (jC IntKind.u64<|aF i64 a.1.1 a.1.2.1) 1) 1,a.1.2.1,()),())
 ((a.1.1,jC i64<|mu IntKind.u64 (jC IntKind.u64<|aF i64 a.1.1 a.1.2.1) 1,()),())).1).2).1,()),()))))
 (some<|Sum.inr (0,(a.1.1,a.1.2.1,()),())))
def dV(x:(List b8)×Sb×ai):Option (Int×Bool×ai) :=
 af (Loop (iM x) (((0:Int),len x.1,()),())) (λa=>aj (aY a.1.1<|len x.1)
 (af (idx x.1 a.1.1) λb=>af (la (b,x.2.1,())) λc=>some (a.1.1,aX c.1 0,()))
 (some (a.1.1,false,())))
def mO(x:(List b8)×Sb×ai):Option (Int×ai) :=
 aj (bt x.2.1 ([]:aq))
 (some ((0:Int),()))
 (af (dV (x.1,x.2.1,())) λa=>aj (nt a.2.1)
 (some ((3:Int),()))
 (af (idx x.1 a.1) λb=>aj (nt<|aX b.2.1 2)
 (some ((12:Int),()))
 (some ((0:Int),()))))
def oS(x:(List b8)×ai)(a:y4×ai):Option ((y4×ai)⊕(Nat×y4×ai)) :=
 aj (aY a.1.2.1<|len x.1)
 (af (idx x.1 a.1.2.1) λb=>af (fD (b.1,())) λd=>af (xA (b,())) λe=>aj (nt e.1)
 (some<|Sum.inr (1,((1:Int),a.1.2.1,()),()))
 (aj (aY 0 a.1.2.1)
 (af (idx x.1<|cC i64 a.1.2.1 1) λc=>af (kX (c.1,b.1,())) λf=>aj (cu 0 f.1)
 (some<|Sum.inr (1,((1:Int),a.1.2.1,()),()))
 (aj (inside 0 a.1.2.1<|len x.1)
 (af (mO (sub x.1 (0:Int)<|minus a.1.2.1 0,d.1,())) λg=>aj (nt<|aX g.1 0)
 (some<|Sum.inr (1,((1:Int),a.1.2.1,()),()))
 (some<|Sum.inl ((a.1.1,aF i64 a.1.2.1 1,()),())))
 none))
 (aj (inside 0 a.1.2.1<|len x.1)
 (af (mO (sub x.1 (0:Int)<|minus a.1.2.1 0,d.1,())) λc=>aj (nt<|aX c.1 0)
 (some<|Sum.inr (1,((1:Int),a.1.2.1,()),()))
 (some<|Sum.inl ((a.1.1,aF i64 a.1.2.1 1,()),())))
 none)))
 (some<|Sum.inr (0,(a.1.1,a.1.2.1,()),()))
def e7(x:(List b8)×ai):Option (Int×ai) :=
 aj (aY 64<|len x.1)
 (some ((1:Int),()))
 (af (Loop (oS x) (((0:Int),(0:Int),()),())) λa=>aj (dJ a.1 0)
 (some ((0:Int),()))
 (some (a.2.1.1,())))
def lZ(x:(List b8)×ai):Option ((List b8)×ai) :=
 bif fits (len x.1) then some (x.1,()) else none
def lI(x:(List b8)×b8×ai)(a:y4×ai×Sb×ai):Option ((y4×ai×Sb×ai)⊕(Nat×y4×ai×Sb×ai)) :=
 aj (aY a.1.2.1<|len x.1)
 (aj (within a.1.2.1<|len x.1)
 (af (idx x.1 a.1.2.1) λc=>af (aj (nt<|bt c.1 a.2.2.1)
 (af (cX (c.1,a.2.2.1,())) λb=>some b.1)
 (some true)) λb=>aj b
 (some<|Sum.inr (1,(a.1.2.1,a.1.2.1,()),(),a.2.2.1,()))
 (some<|Sum.inl ((a.1.1,aF i64 a.1.2.1 1,()),(),a.2.2.1,())))
 none)
 (some<|Sum.inr (0,(a.1.1,a.1.2.1,()),(),a.2.2.1,()))
def L9(a:(Int×Int×ai×ai)×ai×Sb×(List b8)×ai):Option (WO⊕WO) :=
 dh (aj (aY a.1.2.1<|len a.2.2.2.1)
 (aj (within a.1.2.1<|len a.2.2.2.1)
 (af (idx a.2.2.2.1 a.1.2.1) λb=>af (aj (nt<|bt b.1 a.2.2.1)
 (af (cX (b.1,a.2.2.1,())) λc=>some c.1)
 (some true)) λc=>af (aj (nt c)
 (aj (within a.1.1<|len a.2.2.2.1)
 (af (idx a.2.2.2.1 a.1.1) λd=>af (idx a.2.2.2.1 a.1.1) λe=>af (idx a.2.2.2.1 a.1.1) λf=>some ((aF i64 a.1.1 1,(),()),lR a.2.2.2.1 a.1.1 b,()))
 none)
 (some ((a.1.1,(),()),a.2.2.2.1,()))) λd=>some (Sum.inl ((d.1.1,aF i64 a.1.2.1 1,(),()),(),a.2.2.1,d.2.1,())))
 none)
 (some<|Sum.inr (0,(a.1.1,a.1.2.1,(),()),(),a.2.2.1,a.2.2.2.1,())))
def ox(a:(Int×Int×ai×ai)×ai×Sb×(List b8)×ai):Option (WO⊕WO) :=
 dh (aj (aY a.1.2.1<|len a.2.2.2.1)
 (aj (within a.1.2.1<|len a.2.2.2.1)
 (af (idx a.2.2.2.1 a.1.2.1) λb=>af (aj (nt<|bt b.1 a.2.2.1)
 (af (cX (b.1,a.2.2.1,())) λc=>some c.1)
 (some true)) λc=>af (aj (nt c)
 (aj (within a.1.1<|len a.2.2.2.1)
 (af (idx a.2.2.2.1 a.1.1) λd=>af (idx a.2.2.2.1 a.1.1) λe=>af (idx a.2.2.2.1 a.1.1) λf=>some ((aF i64 a.1.1 1,(),()),lR a.2.2.2.1 a.1.1 b,()))
 none)
 (some ((a.1.1,(),()),a.2.2.2.1,()))) λd=>some (Sum.inl ((d.1.1,aF i64 a.1.2.1 1,(),()),(),a.2.2.1,d.2.1,())))
 none)
 (some<|Sum.inr (0,(a.1.1,a.1.2.1,(),()),(),a.2.2.1,a.2.2.2.1,())))
def ru(x:(List b8)×b8×ai):Option ((List b8)×Int×ai) :=
 af (e7 (x.1,())) (λj=>af (aj (nt<|nt<|aX j.1 0)
 (af (xA (x.2.1,())) λf=>some (nt f.1))
 (some true)) λf=>aj f
 (some (([]:List b8),(1:Int),()))
 (af (fD (x.2.1.1,())) λk=>af (mO (x.1,k.1,())) λh=>aj (nt<|aX h.1 0)
 (some (([]:List b8),h.1,()))
 (af (dV (x.1,x.2.1.1,())) λd=>af (aj d.2.1
 (af (idx x.1 d.1) λg=>some (aX g.2.1 2))
 (some false)) λg=>aj (aj g
 (aX x.2.1.2.1 2)
 false)
 (aj (fits<|len x.1)
 (aj (within d.1<|len x.1)
 (af (idx x.1 d.1) λi=>af (idx x.1 d.1) λc=>af (idx x.1 d.1) λa=>some (lR x.1 d.1 x.2.1,(0:Int),()))
 none)
 none)
 (af (e7 (x.1,())) λi=>aj (nt<|aX i.1 0)
 (aj (cu 64<|len ([]:List b8))
 (some (([]:List b8),(5:Int),()))
 (af (dV (([]:List b8),x.2.1.1,())) λc=>none))
 (aj (fits<|len x.1)
 (af (Loop (lI x) (((0:Int),(0:Int),()),(),x.2.1.1,())) λc=>aj (dJ c.1 0)
 (aj (aX (-1)<|-1)
 (aj (cu 64<|len x.1)
 (some (([]:List b8),(5:Int),()))
 (af (dV (x.1,x.2.1.1,())) λa=>af (aS x.1 (a.1,([x.2.1]:List b8),())) λb=>some (b,(0:Int),())))
 (af (Loop (L9) (((-1:Int),aF i64 (-1) 1,(),()),(),c.2.2.2.1,x.1,())) λa=>aj (inside a.1.1 (len a.2.2.2.1)<|len a.2.2.2.1)
 (aj (inside 0 a.1.1<|len<|over a.2.2.2.1 a.1.1<|jN (minus (len a.2.2.2.1) a.1.1) (([]:aq),(0:Int),(0:Int),([]:aq),([]:aq),()))
 (aj (cu 64<|minus a.1.1 0)
 (some (([]:List b8),(5:Int),()))
 (af (dV (sub (over a.2.2.2.1 a.1.1<|jN (minus (len a.2.2.2.1) a.1.1) (([]:aq),(0:Int),(0:Int),([]:aq),([]:aq),())) (0:Int)<|minus a.1.1 0,x.2.1.1,())) λb=>af (aS (sub (over a.2.2.2.1 a.1.1<|jN (minus (len a.2.2.2.1) a.1.1) (([]:aq),(0:Int),(0:Int),([]:aq),([]:aq),())) (0:Int)<|minus a.1.1 0) (b.1,([x.2.1]:List b8),())) λe=>some (e,(0:Int),())))
 none)
 none))
 (aj (aX c.2.1.1<|-1)
 (aj (cu 64<|len x.1)
 (some (([]:List b8),(5:Int),()))
 (af (dV (x.1,x.2.1.1,())) λa=>af (aS x.1 (a.1,([x.2.1]:List b8),())) λb=>some (b,(0:Int),())))
 (af (Loop (ox) ((c.2.1.1,aF i64 c.2.1.1 1,(),()),(),c.2.2.2.1,x.1,())) λa=>aj (inside a.1.1 (len a.2.2.2.1)<|len a.2.2.2.1)
 (aj (inside 0 a.1.1<|len<|over a.2.2.2.1 a.1.1<|jN (minus (len a.2.2.2.1) a.1.1) (([]:aq),(0:Int),(0:Int),([]:aq),([]:aq),()))
 (aj (cu 64<|minus a.1.1 0)
 (some (([]:List b8),(5:Int),()))
 (af (dV (sub (over a.2.2.2.1 a.1.1<|jN (minus (len a.2.2.2.1) a.1.1) (([]:aq),(0:Int),(0:Int),([]:aq),([]:aq),())) (0:Int)<|minus a.1.1 0,x.2.1.1,())) λb=>af (aS (sub (over a.2.2.2.1 a.1.1<|jN (minus (len a.2.2.2.1) a.1.1) (([]:aq),(0:Int),(0:Int),([]:aq),([]:aq),())) (0:Int)<|minus a.1.1 0) (b.1,([x.2.1]:List b8),())) λe=>some (e,(0:Int),())))
 none)
 none)))
 none)))))
def oT(x:(List b8)×(List b8)×ai)(a:(Bool×Int×ai)×ai):Option abt :=
 aj (aj (aY a.1.2.1<|len x.1)
 (aY a.1.2.1<|len x.2.1)
 false)
 (af (idx x.1 a.1.2.1) λb=>af (idx x.2.1 a.1.2.1) λc=>aj (nt<|an (bt b.1 c.1)<|an (aX b.2.1 c.2.1)<|an (aX b.2.2.1 c.2.2.1)<|an (bt b.2.2.2.1 c.2.2.2.1)<|an (bt b.2.2.2.2.1 c.2.2.2.2.1) true)
 (some<|Sum.inr (1,(false,a.1.2.1,()),()))
 (some<|Sum.inl ((a.1.1,aF i64 a.1.2.1 1,()),())))
 (some<|Sum.inr (0,(a.1.1,a.1.2.1,()),()))
def tQ(x:(List b8)×(List b8)×ai):Option (Bool×ai) :=
 aj (nt<|aX (len x.1)<|len x.2.1)
 (some (false,()))
 (af (Loop (oT x) ((false,(0:Int),()),())) λa=>aj (dJ a.1 0)
 (some (true,()))
 (some (a.2.1.1,())))
def vM(x:(List b8)×Sb×ai):Option (b8×Bool×ai) :=
 af (e7 (x.1,())) (λb=>aj (nt<|aX b.1 0)
 (some ((([]:aq),(0:Int),(0:Int),([]:aq),([]:aq),()),false,()))
 (af (dV (x.1,x.2.1,())) λa=>aj (nt a.2.1)
 (some ((([]:aq),(0:Int),(0:Int),([]:aq),([]:aq),()),false,()))
 (af (idx x.1 a.1) λc=>some (c,true,()))))
def ma(x:Sb×ai)(a:(Bool×Int×ai)×ai):Option abt :=
 aj (aY a.1.2.1<|len x.1)
 (af (idx x.1 a.1.2.1) λb=>aj (aX (u8 b) 0)
 (some<|Sum.inr (1,(false,a.1.2.1,()),()))
 (some<|Sum.inl ((a.1.1,aF i64 a.1.2.1 1,()),())))
 (some<|Sum.inr (0,(a.1.1,a.1.2.1,()),()))
def qk(x:Sb×ai):Option (Bool×ai) :=
 af (Loop (ma x) ((false,(0:Int),()),())) (λa=>aj (dJ a.1 0)
 (some (aj (cu 1<|len x.1)
 (cu (len x.1) 100)
 false,()))
 (some (a.2.1.1,())))
def ku(x:b8×ai):Option (Bool×ai) :=
 af (jy (x.1.1,())) (λb=>af (qe (b.2.1,())) λc=>af (aj (nt<|bt x.1.1 ([]:aq))
 (af (uQ (x.1.1,())) λa=>some a.1)
 (some false)) λa=>aj (aX x.1.2.1 1)
 (some (aj (aj (aj (aj (aj (aj (aj a
 (cu (len x.1.1) 92)
 false)
 (cu (len b.2.1) 28)
 false)
 (aX c.1 0)
 false)
 (cu 0 x.1.2.2.1)
 false)
 (cu x.1.2.2.1 4095)
 false)
 (bt x.1.2.2.2.2.1 ([]:aq))
 false)
 (cu (len x.1.2.2.2.1) 8192)
 false,()))
 (aj (aX x.1.2.1 2)
 (some (aj (aj (aj (aj (aj (aj (aj a
 (cu (len x.1.1) 92)
 false)
 (cu (len b.2.1) 28)
 false)
 (aX c.1 0)
 false)
 (cu 0 x.1.2.2.1)
 false)
 (cu x.1.2.2.1 4095)
 false)
 (bt x.1.2.2.2.2.1 ([]:aq))
 false)
 (bt x.1.2.2.2.1 ([]:aq))
 false,()))
 (aj (aX x.1.2.1 3)
 (af (aj (aj (aj (aj (aj (aj (aj a
 (cu (len x.1.1) 92)
 false)
 (cu (len b.2.1) 28)
 false)
 (aX c.1 0)
 false)
 (cu 0 x.1.2.2.1)
 false)
 (cu x.1.2.2.1 4095)
 false)
 (bt x.1.2.2.2.1 ([]:aq))
 false)
 (af (qk (x.1.2.2.2.2.1,())) λd=>some d.1)
 (some false)) λd=>some (d,()))
 (some (false,())))))
def oU(x:(List b8)×Sb×ai)(a:y4×ai):Option ((y4×ai)⊕(Nat×y4×ai)) :=
 aj (aY a.1.2.1<|len x.1)
 (af (idx x.1 a.1.2.1) λb=>aj (bt b.1 x.2.1)
 (some<|Sum.inr (1,(a.1.2.1,a.1.2.1,()),()))
 (some<|Sum.inl ((a.1.1,aF i64 a.1.2.1 1,()),())))
 (some<|Sum.inr (0,(a.1.1,a.1.2.1,()),()))
def gD(x:(List b8)×Sb×ai):Option (Int×ai) :=
 af (Loop (oU x) (((0:Int),(0:Int),()),())) (λa=>aj (dJ a.1 0)
 (some ((-1:Int),()))
 (some (a.2.1.1,())))
def mP(x:(List b8)×Sb×ai):Option (Bool×ai) :=
 af (gD (x.1,x.2.1,())) (λb=>af (aj (nt<|bt x.2.1 ([]:aq))
 (af (aj (cu 0 b.1)
 (af (idx x.1 b.1) λa=>some (aX a.2.1 2))
 (some false)) λa=>some a)
 (some true)) λa=>some (a,()))
def r9(x:(List b8)×ai)(a:(Bool×Int×ai)×ai):Option abt :=
 aj (aY a.1.2.1<|len x.1)
 (af (idx x.1 a.1.2.1) λb=>af (jy (b.1,())) λc=>af (idx x.1 a.1.2.1) λd=>af (ku (d,())) λe=>aj (nt e.1)
 (some<|Sum.inr (1,(false,a.1.2.1,()),()))
 (af (mP (x.1,c.1,())) λf=>aj (nt f.1)
 (some<|Sum.inr (1,(false,a.1.2.1,()),()))
 (aj (aY 0 a.1.2.1)
 (af (idx x.1<|cC i64 a.1.2.1 1) λg=>af (idx x.1 a.1.2.1) λh=>af (kZ (g.1,h.1,())) λi=>aj (cu 0 i.1)
 (some<|Sum.inr (1,(false,a.1.2.1,()),()))
 (some<|Sum.inl ((a.1.1,aF i64 a.1.2.1 1,()),())))
 (some<|Sum.inl ((a.1.1,aF i64 a.1.2.1 1,()),())))))
 (some<|Sum.inr (0,(a.1.1,a.1.2.1,()),()))
def kI(x:(List b8)×ai):Option (Bool×ai) :=
 aj (aY 64<|len x.1)
 (some (false,()))
 (af (Loop (r9 x) ((false,(0:Int),()),())) λa=>aj (dJ a.1 0)
 (some (true,()))
 (some (a.2.1.1,())))
def ia(x:(List b8)×Sb×Bool×ai)(a:(ai×Int×ai)×(List b8)×ai):Option (((ai×Int×ai)×(List b8)×ai)⊕((ai×Int×ai)×(List b8)×ai)) :=
 dh (aj (aY a.1.2.1<|len x.1)
 (af (idx x.1 a.1.2.1) λd=>af (rV (d.1,x.2.1,())) λe=>af (aj (nt e.1)
 (af (aj (nt<|nt x.2.2.1)
 (af (idx x.1 a.1.2.1) λb=>some (nt<|bt b.1 x.2.1))
 (some true)) λb=>some b)
 (some false)) λb=>af (aj b
 (af (idx x.1 a.1.2.1) λc=>aj (fits<|plus (len a.2.1)<|len ([c]:List b8))
 (some (((),()),app a.2.1 ([c]:List b8),()))
 none)
 (some (((),()),a.2.1,()))) λc=>some (Sum.inl (((),aF i64 a.1.2.1 1,()),c.2.1,())))
 (some<|Sum.inr (0,((),a.1.2.1,()),a.2.1,())))
def iN(x:(List b8)×Sb×Bool×ai):Option ((List b8)×ai) :=
 af (Loop (ia x) (((),(0:Int),()),([]:List b8),())) (λa=>some (a.2.1,()))
def j8(x:(List b8)×b8×ai)(d:((List b8)×ai)×ai)(a:(Int×ai)×ai):Option (((Int×ai)×ai)⊕((Int×ai)×ai)) :=
 dh (aj (aY a.1.1<|len d.1.1)
 (af (idx d.1.1 a.1.1) λb=>af (kZ (b.1,x.2.1.1,())) λc=>aj (aY c.1 0)
 (some<|Sum.inl ((aF i64 a.1.1 1,()),()))
 (some<|Sum.inr (0,(a.1.1,()),())))
 (some<|Sum.inr (0,(a.1.1,()),())))
def mQ(x:(List b8)×b8×ai):Option ((List b8)×Int×ai) :=
 af (kI (x.1,())) (λh=>af (aj (nt<|nt h.1)
 (af (ku (x.2.1,())) λd=>some (nt d.1))
 (some true)) λd=>aj d
 (some (([]:List b8),(1:Int),()))
 (af (jy (x.2.1.1,())) λe=>af (aj (nt<|bt e.1 ([]:aq))
 (af (gD (x.1,e.1,())) λf=>some (aY f.1 0))
 (some false)) λf=>aj f
 (some (([]:List b8),(3:Int),()))
 (af (mP (x.1,e.1,())) λi=>aj (nt i.1)
 (some (([]:List b8),(12:Int),()))
 (af (gD (x.1,x.2.1.1,())) λb=>af (aj (cu 0 b.1)
 (af (idx x.1 b.1) λg=>some (aX g.2.1 2))
 (some false)) λg=>af (aj (aj g
 (aX x.2.1.2.1 2)
 false)
 (aj (inside 0 b.1<|len x.1)
 (aj (fits<|plus (len ([]:List b8))<|len<|sub x.1 (0:Int)<|minus b.1 0)
 (aj (inside (aF i64 b.1 1) (len x.1)<|len x.1)
 (aj (fits<|plus (len<|app ([]:List b8)<|sub x.1 (0:Int)<|minus b.1 0)<|len<|sub x.1 (aF i64 b.1 1)<|minus (len x.1)<|aF i64 b.1 1)
 (some ((app (app ([]:List b8)<|sub x.1 (0:Int)<|minus b.1 0)<|sub x.1 (aF i64 b.1 1)<|minus (len x.1)<|aF i64 b.1 1,()),()))
 none)
 none)
 none)
 none)
 (af (aj (cu 0 b.1)
 (af (iN (x.1,x.2.1.1,true,())) λa=>some ((a.1,()),()))
 (some ((x.1,()),()))) λa=>some ((a.1.1,()),()))) λa=>aj (cu 64<|len a.1.1)
 (some (([]:List b8),(5:Int),()))
 (af (Loop (j8 x a) (((0:Int),()),())) λc=>aj (inside 0 c.1.1<|len a.1.1)
 (aj (fits<|plus (len ([]:List b8))<|len<|sub a.1.1 (0:Int)<|minus c.1.1 0)
 (aj (fits<|plus (len<|app ([]:List b8)<|sub a.1.1 (0:Int)<|minus c.1.1 0)<|len ([x.2.1]:List b8))
 (aj (inside c.1.1 (len a.1.1)<|len a.1.1)
 (aj (fits<|plus (len<|app (app ([]:List b8)<|sub a.1.1 (0:Int)<|minus c.1.1 0) ([x.2.1]:List b8))<|len<|sub a.1.1 c.1.1<|minus (len a.1.1) c.1.1)
 (some (app (app (app ([]:List b8)<|sub a.1.1 (0:Int)<|minus c.1.1 0) ([x.2.1]:List b8))<|sub a.1.1 c.1.1<|minus (len a.1.1) c.1.1,(0:Int),()))
 none)
 none)
 none)
 none)
 none)))))
end Go.Ge
namespace Go.Ge
variable [Lp]
set_option maxRecDepth 100000
abbrev tz:=(List<|Sb×Int×Int×Sb×Sb×ai)
abbrev GC:=((Int×Int×ai×ai)×ai×Sb×tz×ai)
abbrev SG:=(Sb×Int×Int×Sb×Sb×ai)
def gT(x:tz×Sb×ai)(a:(Int×Int×ai)×ai×Sb×ai):Option (((Int×Int×ai)×ai×Sb×ai)⊕(Nat×(Int×Int×ai)×ai×Sb×ai)) :=
 aj (aY a.1.2.1<|len x.1)
 (aj (within a.1.2.1<|len x.1)
 (af (idx x.1 a.1.2.1) λc=>af (aj (nt<|bt c.1 a.2.2.1)
 (af (cX (c.1,a.2.2.1,())) λb=>some b.1)
 (some true)) λb=>aj b
 (some<|Sum.inr (1,(a.1.2.1,a.1.2.1,()),(),a.2.2.1,()))
 (some<|Sum.inl ((a.1.1,aF i64 a.1.2.1 1,()),(),a.2.2.1,())))
 none)
 (some<|Sum.inr (0,(a.1.1,a.1.2.1,()),(),a.2.2.1,()))
def Fj(a:(Int×Int×ai×ai)×ai×Sb×tz×ai):Option (GC⊕GC) :=
 dh (aj (aY a.1.2.1<|len a.2.2.2.1)
 (aj (within a.1.2.1<|len a.2.2.2.1)
 (af (idx a.2.2.2.1 a.1.2.1) λb=>af (aj (nt<|bt b.1 a.2.2.1)
 (af (cX (b.1,a.2.2.1,())) λc=>some c.1)
 (some true)) λc=>af (aj (nt c)
 (aj (within a.1.1<|len a.2.2.2.1)
 (af (idx a.2.2.2.1 a.1.1) λd=>af (idx a.2.2.2.1 a.1.1) λe=>af (idx a.2.2.2.1 a.1.1) λf=>some ((aF i64 a.1.1 1,(),()),lR a.2.2.2.1 a.1.1 b,()))
 none)
 (some ((a.1.1,(),()),a.2.2.2.1,()))) λd=>some (Sum.inl ((d.1.1,aF i64 a.1.2.1 1,(),()),(),a.2.2.1,d.2.1,())))
 none)
 (some<|Sum.inr (0,(a.1.1,a.1.2.1,(),()),(),a.2.2.1,a.2.2.2.1,())))
def j9(a:(Int×Int×ai×ai)×ai×Sb×tz×ai):Option (GC⊕GC) :=
 dh (aj (aY a.1.2.1<|len a.2.2.2.1)
 (aj (within a.1.2.1<|len a.2.2.2.1)
 (af (idx a.2.2.2.1 a.1.2.1) λb=>af (aj (nt<|bt b.1 a.2.2.1)
 (af (cX (b.1,a.2.2.1,())) λc=>some c.1)
 (some true)) λc=>af (aj (nt c)
 (aj (within a.1.1<|len a.2.2.2.1)
 (af (idx a.2.2.2.1 a.1.1) λd=>af (idx a.2.2.2.1 a.1.1) λe=>af (idx a.2.2.2.1 a.1.1) λf=>some ((aF i64 a.1.1 1,(),()),lR a.2.2.2.1 a.1.1 b,()))
 none)
 (some ((a.1.1,(),()),a.2.2.2.1,()))) λd=>some (Sum.inl ((d.1.1,aF i64 a.1.2.1 1,(),()),(),a.2.2.1,d.2.1,())))
 none)
 (some<|Sum.inr (0,(a.1.1,a.1.2.1,(),()),(),a.2.2.1,a.2.2.2.1,())))
def sa(x:tz×Sb×ai):Option (tz×ai) :=
 af (e7 (x.1,())) (λc=>aj (nt<|aX c.1 0)
 (some (([]:List SG),()))
 (aj (fits<|len x.1)
 (af (Loop (gT x) (((0:Int),(0:Int),()),(),x.2.1,())) λb=>aj (dJ b.1 0)
 (aj (aX (-1)<|-1)
 (some (x.1,()))
 (af (Loop (Fj) (((-1:Int),aF i64 (-1) 1,(),()),(),b.2.2.2.1,x.1,())) λa=>aj (inside a.1.1 (len a.2.2.2.1)<|len a.2.2.2.1)
 (aj (inside 0 a.1.1<|len<|over a.2.2.2.1 a.1.1<|jN (minus (len a.2.2.2.1) a.1.1) (([]:aq),(0:Int),(0:Int),([]:aq),([]:aq),()))
 (some (sub (over a.2.2.2.1 a.1.1<|jN (minus (len a.2.2.2.1) a.1.1) (([]:aq),(0:Int),(0:Int),([]:aq),([]:aq),())) (0:Int)<|minus a.1.1 0,()))
 none)
 none))
 (aj (aX b.2.1.1<|-1)
 (some (x.1,()))
 (af (Loop (j9) ((b.2.1.1,aF i64 b.2.1.1 1,(),()),(),b.2.2.2.1,x.1,())) λa=>aj (inside a.1.1 (len a.2.2.2.1)<|len a.2.2.2.1)
 (aj (inside 0 a.1.1<|len<|over a.2.2.2.1 a.1.1<|jN (minus (len a.2.2.2.1) a.1.1) (([]:aq),(0:Int),(0:Int),([]:aq),([]:aq),()))
 (some (sub (over a.2.2.2.1 a.1.1<|jN (minus (len a.2.2.2.1) a.1.1) (([]:aq),(0:Int),(0:Int),([]:aq),([]:aq),())) (0:Int)<|minus a.1.1 0,()))
 none)
 none)))
 none))
def tR(x:tz×Sb×ai):Option (SG×Bool×ai) :=
 af (gD (x.1,x.2.1,())) (λa=>af (kI (x.1,())) λb=>aj (aj (nt<|nt b.1)
 (aY a.1 0)
 true)
 (some ((([]:aq),(0:Int),(0:Int),([]:aq),([]:aq),()),false,()))
 (af (idx x.1 a.1) λc=>some (c,true,())))
def ql(x:tz×Sb×ai):Option (tz×ai) :=
 af (kI (x.1,())) (λa=>aj (nt a.1)
 (some (([]:List SG),()))
 (af (iN (x.1,x.2.1,true,())) λb=>some (b.1,())))
def iO(x:tz×Sb×ai)(a:(Int×Int×ai)×ai×Sb×ai):Option (((Int×Int×ai)×ai×Sb×ai)⊕(Nat×(Int×Int×ai)×ai×Sb×ai)) :=
 aj (aY a.1.2.1<|len x.1)
 (aj (within a.1.2.1<|len x.1)
 (af (idx x.1 a.1.2.1) λb=>af (cX (b.1,a.2.2.1,())) λc=>aj c.1
 (some<|Sum.inr (1,(a.1.2.1,a.1.2.1,()),(),a.2.2.1,()))
 (some<|Sum.inl ((a.1.1,aF i64 a.1.2.1 1,()),(),a.2.2.1,())))
 none)
 (some<|Sum.inr (0,(a.1.1,a.1.2.1,()),(),a.2.2.1,()))
def Hp(a:(Int×Int×ai×ai)×ai×Sb×tz×ai):Option (GC⊕GC) :=
 dh (aj (aY a.1.2.1<|len a.2.2.2.1)
 (aj (within a.1.2.1<|len a.2.2.2.1)
 (af (idx a.2.2.2.1 a.1.2.1) λc=>af (cX (c.1,a.2.2.1,())) λd=>af (aj (nt d.1)
 (aj (within a.1.1<|len a.2.2.2.1)
 (af (idx a.2.2.2.1 a.1.1) λb=>af (idx a.2.2.2.1 a.1.1) λe=>af (idx a.2.2.2.1 a.1.1) λf=>some ((aF i64 a.1.1 1,(),()),lR a.2.2.2.1 a.1.1 c,()))
 none)
 (some ((a.1.1,(),()),a.2.2.2.1,()))) λb=>some (Sum.inl ((b.1.1,aF i64 a.1.2.1 1,(),()),(),a.2.2.1,b.2.1,())))
 none)
 (some<|Sum.inr (0,(a.1.1,a.1.2.1,(),()),(),a.2.2.1,a.2.2.2.1,())))
def ld(a:(Int×Int×ai×ai)×ai×Sb×tz×ai):Option (GC⊕GC) :=
 dh (aj (aY a.1.2.1<|len a.2.2.2.1)
 (aj (within a.1.2.1<|len a.2.2.2.1)
 (af (idx a.2.2.2.1 a.1.2.1) λc=>af (cX (c.1,a.2.2.1,())) λd=>af (aj (nt d.1)
 (aj (within a.1.1<|len a.2.2.2.1)
 (af (idx a.2.2.2.1 a.1.1) λb=>af (idx a.2.2.2.1 a.1.1) λe=>af (idx a.2.2.2.1 a.1.1) λf=>some ((aF i64 a.1.1 1,(),()),lR a.2.2.2.1 a.1.1 c,()))
 none)
 (some ((a.1.1,(),()),a.2.2.2.1,()))) λb=>some (Sum.inl ((b.1.1,aF i64 a.1.2.1 1,(),()),(),a.2.2.1,b.2.1,())))
 none)
 (some<|Sum.inr (0,(a.1.1,a.1.2.1,(),()),(),a.2.2.1,a.2.2.2.1,())))
def tS(x:tz×Sb×ai):Option (tz×ai) :=
 af (e7 (x.1,())) (λc=>aj (nt<|aX c.1 0)
 (some (([]:List SG),()))
 (aj (fits<|len x.1)
 (af (Loop (iO x) (((0:Int),(0:Int),()),(),x.2.1,())) λb=>aj (dJ b.1 0)
 (aj (aX (-1)<|-1)
 (some (x.1,()))
 (af (Loop (Hp) (((-1:Int),aF i64 (-1) 1,(),()),(),b.2.2.2.1,x.1,())) λa=>aj (inside a.1.1 (len a.2.2.2.1)<|len a.2.2.2.1)
 (aj (inside 0 a.1.1<|len<|over a.2.2.2.1 a.1.1<|jN (minus (len a.2.2.2.1) a.1.1) (([]:aq),(0:Int),(0:Int),([]:aq),([]:aq),()))
 (some (sub (over a.2.2.2.1 a.1.1<|jN (minus (len a.2.2.2.1) a.1.1) (([]:aq),(0:Int),(0:Int),([]:aq),([]:aq),())) (0:Int)<|minus a.1.1 0,()))
 none)
 none))
 (aj (aX b.2.1.1<|-1)
 (some (x.1,()))
 (af (Loop (ld) ((b.2.1.1,aF i64 b.2.1.1 1,(),()),(),b.2.2.2.1,x.1,())) λa=>aj (inside a.1.1 (len a.2.2.2.1)<|len a.2.2.2.1)
 (aj (inside 0 a.1.1<|len<|over a.2.2.2.1 a.1.1<|jN (minus (len a.2.2.2.1) a.1.1) (([]:aq),(0:Int),(0:Int),([]:aq),([]:aq),()))
 (some (sub (over a.2.2.2.1 a.1.1<|jN (minus (len a.2.2.2.1) a.1.1) (([]:aq),(0:Int),(0:Int),([]:aq),([]:aq),())) (0:Int)<|minus a.1.1 0,()))
 none)
 none)))
 none))
def sb(x:tz×Sb×ai):Option (tz×ai) :=
 af (kI (x.1,())) (λa=>aj (nt a.1)
 (some (([]:List SG),()))
 (af (iN (x.1,x.2.1,false,())) λb=>some (b.1,())))
end Go.Ge
namespace Go.Ge
variable [Lp]
set_option maxRecDepth 100000
end Go.Ge
