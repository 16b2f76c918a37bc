/- Plain laws of what the functions compute: part 5. -/
import Derived.Test.YtpmecibilnjeiaaGreatDoorPlD
set_option linter.unusedSectionVars false
set_option linter.unusedVariables false
set_option linter.unusedSimpArgs false
namespace Go.Ge
variable [Lp]
theorem Gv(s p:ao):bH (s,p,())=some (decide<|s.take p.length=p,()):=by
 unfold bH;dsimp only;rw[JT];by_cases h:p.length<=s.length
 .rw[eu h,ab,show inside 0 (len p) (len s)=true from aP (by decide) (by rw[br];omega) (by rw[br,br];omega),ab,AQ,aa];rfl
 .rw[cU h,af,aa,cU];intro e;have:=congrArg List.length e;rw[fT] at this;omega
theorem UG(s p:ao):ed (s,p,())=some (decide<|s.take p.length=p,()):=by
 unfold ed;dsimp only;rw[Gv,aa]
theorem J1(s p:ao):nc (s,p,())=some (decide<|s.take p.length=p,()):=by
 unfold nc;dsimp only;rw[JT];by_cases h:p.length<=s.length
 .rw[eu h,ab,show inside 0 (len p) (len s)=true from aP (by decide) (by rw[br];omega) (by rw[br,br];omega),ab,AQ,aa];rfl
 .rw[cU h,af,aa,cU];intro e;have:=congrArg List.length e;rw[fT] at this;omega
theorem aaI(s p:ao):ea (s,p,())=some (if s.take p.length=p then(s.drop p.length,true,()) else(s,false,())):=by
 unfold ea dG;dsimp only;rw[Gv,aa];dsimp only;by_cases h:s.take p.length=p
 .have a:p.length<=s.length:=by
   have:=congrArg List.length h;rw[fT] at this;omega
  rw[eu h,aE,af,show inside (len p) (len s) (len s)=true from aP (by rw[br];omega) (by rw[br,br];omega) (qJ _),ab,aa,aV h];rw[show sub s (len p) (minus (len s)<|len p)=s.drop p.length from oN s p.length a]
 .rw[cU h,az,ab,aa,aX h]
theorem L1(l:List ao)(s:ao)(p:l.length<=1048576):dN (l,s,())=some (decide<|s∈l,()):=by
 unfold dN gv;dsimp only;have key:=oM (f:=cG (l,s,())) l (λ(_:ah) i=>((0,(i:Int),()),()))
  (λi _ x=>some (if s=x then .inr (1,((i:Int),(i:Int),()),()) else .inl ())) (λi _=>(0,(0,(i:Int),()),())) (λ_ _=>True)
  (λu i x k n _=>by
   unfold cG;dsimp only;rw[aq n,ab,ar k,aa];by_cases e:s=x
   .rw[cv e,ab,aV e];rfl
   .rw[bq e,af,aX e,aK (by omega)];rfl)
  (λ_ _ _ _ _ _ _=>trivial)
  (λu _=>by
   unfold cG;dsimp only;rw[aC,af])
  (λ_ _ _ _ _ h=>by cases h) () trivial
 have run:∀(r:List ao) (i:Nat),∃q,sF (λi (_:ah) x=>some (if s=x then Sum.inr (1,((i:Int),(i:Int),()),()) else Sum.inl ())) (λi _=>((0:Nat),((0:Int),(i:Int),()),())) r i ()=some q /\
   (if s∈r then q.1=1/\0<=q.2.1.1 else q.1=0):=by
  intro r;induction r with
  | nil=>intro i;exact⟨_,rfl,by simp⟩
  | cons x r o =>
    intro i;unfold sF;by_cases h:s=x
    .simp only[aV h];refine⟨_,rfl,?_⟩;rw[aV<|by rw[h];exact mJ ..];exact⟨rfl,by simp⟩
    .simp only[aX h];obtain⟨q,j,a⟩:=o (i+1);refine⟨q,j,?_⟩;by_cases d:s∈r
     .rw[aV<|oh _ d];rw[aV d] at a;exact a
     .rw[aX<|by simp[h,d]];rw[aX d] at a;exact a
 obtain⟨q,j,a⟩:=run l 0;have c:Loop (cG (l,s,())) ((0,(0:Int),()),())=some q:=key.trans j;rw[c,aa];by_cases h:s∈l
 .rw[aV h] at a;rw[a.1,eC,af,aa,eu h];dsimp only;rw[dc a.2]
 .rw[aX h] at a;rw[a,bV,ab,aa,cU h];rfl
def wh:ao:=[46,119,104,46]
def kO(n:ao):Int×ao :=
 if n.take 4=wh then(if n.drop 4=[46,119,104,46,46,111,112,113] then(2,[]) else if(n.drop 4).take 4=wh\/n.drop 4=[]\/n.drop 4=[46]\/n.drop 4=[46,46] then(3,[]) else(1,n.drop 4)) else(0,n)
theorem R6(n:ao):qe (n,())=some ((kO n).1,(kO n).2,()):=by
 unfold qe kO;dsimp only;rw[show([46,119,104,46]:ao)=wh from rfl,aaI,aa,show wh.length=4 from rfl];by_cases h:n.take 4=wh
 .have e:n=wh++n.drop 4:=by rw[<-h,vV]
  rw[aV h,aV h];dsimp only;rw[aE,af];generalize n.drop 4=r at e;by_cases a:r=[46,119,104,46,46,111,112,113]
  .rw[aV a,cv (by rw[e,a];rfl),ab]
  .rw[aX a,bq (by rw[e];intro q;exact a (by simpa [wh] using q)),af,UG,aa];dsimp only;rw[show wh.length=4 from rfl];by_cases c:r.take 4=wh
   .rw[aV<|.inl c,eu c,aE,af,aa,ab]
   .rw[cU c,az,ab,L1 _ _ (by decide),aa,aa,JU];have:r∈([[],[46],[46,46]]:List ao)↔(r=[]\/r=[46]\/r=[46,46]):=by simp
    by_cases d:r=[]\/r=[46]\/r=[46,46]
    .rw[aV<|this.2 d,aV (.inr d)]
    .rw[aX<|λq=>d (this.1 q),aX λq=>q.elim c d]
 .rw[aX h,aX h];rfl
theorem Gw(n:ao):qg (n,())=some ((kO n).1,(kO n).2,()):=by
 unfold qg kO;dsimp only;rw[J1,J1];by_cases h:n.take 4=wh
 .have e:n=wh++n.drop 4:=by rw[<-h,vV]
  rw[aV h];generalize i:n.drop 4=r at e;by_cases a:r=[46,119,104,46,46,111,112,113]
  .rw[aV a,cv (by rw[e,a];rfl),ab]
  .rw[aX a,bq (by rw[e];intro q;exact a (by simpa [wh] using q)),af,aa];dsimp only;have j:decide (n.take ([46,119,104,46,46,119,104,46]:ao).length=[46,119,104,46,46,119,104,46])=decide (r.take 4=wh):=by
    rw[e];apply jV.2;simp[wh]
   have k:bw n [46,119,104,46]=decide (r=[]):=by
    rw[e];unfold bw;apply jV.2;simp[wh]
   have l:bw n [46,119,104,46,46]=decide (r=[46]):=by
    rw[e];unfold bw;apply jV.2;simp[wh]
   have o:bw n [46,119,104,46,46,46]=decide (r=[46,46]):=by
    rw[e];unfold bw;apply jV.2;simp[wh]
   have p:decide (n.take ([46,119,104,46]:ao).length=[46,119,104,46])=true:=eu h;rw[j,k,l,o,p];have s:aj (aj (nt<|aj (nt<|aj (nt<|decide<|r.take 4=wh) (decide<|r=[]) true) (decide<|r=[46]) true) (decide<|r=[46,46]) true)=λ(x y:Option (Int×ao×ah))=>if r.take 4=wh\/r=[]\/r=[46]\/r=[46,46] then x else y:=by
    funext x y;by_cases b1:r.take 4=wh
    .rw[aV<|.inl b1];simp[b1,aj,nt]
    .by_cases c:r=[]
     .rw[aV<|.inr<|.inl c];simp[c,aj,nt]
     .by_cases d:r=[46]
      .rw[aV<|.inr<|.inr<|.inl d];simp[d,aj,nt]
      .by_cases f:r=[46,46]
       .rw[aV<|.inr<|.inr<|.inr f];simp[f,aj,nt]
       .rw[aX<|by simp[b1,c,d,f]];simp[b1,c,d,f,aj,nt]
   rw[s];dsimp only;by_cases b:r.take 4=wh\/r=[]\/r=[46]\/r=[46,46]
   .rw[aV b,aV b]
   .rw[aX b,aX b,aa];dsimp only;have v:4<=n.length:=by rw[e];simp[wh]
    rw[ab,show inside 4 (len n) (len n)=true from aP (by decide) (by rw[br];omega) (qJ _),ab,show sub n 4 (minus (len n) 4)=n.drop 4 from oN n 4 v,i]
 .rw[aX h];have w:n≠[46,119,104,46,46,119,104,46,46,111,112,113]:=λq=>h (by rw[q];rfl);have A:n≠[46,119,104,46]:=λq=>h (by rw[q];rfl);have B:n≠[46,119,104,46,46]:=λq=>h (by rw[q];rfl);have C:n≠[46,119,104,46,46,46]:=λq=>h (by rw[q];rfl);have D:¬n.take ([46,119,104,46,46,119,104,46]:ao).length=[46,119,104,46,46,119,104,46]:=λq=>h (by
   have:=congrArg (List.take 4) q;rw[Bj] at this;exact this)
  rw[bq w,af,aa];dsimp only;rw[cU D,bq A,bq B,bq C];rw[show aj (aj (nt<|aj (nt<|aj (nt false) false true) false true) false true)=λ(x y:Option (Int×ao×ah))=>y from rfl];dsimp only;rw[aa];dsimp only;rw[cU<|by exact h,af]
theorem j6{a b:Bool}:aj a b false=(a&&b):=by cases a<;>rfl
theorem XM{s:ao}(h:(kD s).2=0):lp s=true/\(kD s).1=aF (names s):=by
 unfold kD at h⊢;cases a:lp s with
 | true=>simp
 | false=>rw[a] at h;simp at h
theorem pL{s:ao}(h:lp s=true):(names s).all qz=true/\(names s).length<=8/\(aF<|names s).length<=96:=by
 unfold lp at h;simp only[dv,nE] at h;exact⟨h.1.1.1,h.1.2,h.2⟩
theorem UH{l:List ao}(h:∀x∈l,47∉x/\x≠[]):(aF l).head?≠some 47:=by
 cases l with
 | nil=>simp[aF]
 | cons x r =>
   obtain⟨c,a⟩:=h x (mJ ..);have e:(aF (x::r)).head?=x.head?:=by
    cases x with
    | nil=>exact absurd rfl a
    | cons b x=>cases r<;>simp[aF]
   rw[e];cases x with
   | nil=>exact absurd rfl a
   | cons b x =>
     intro q;have:b=47:=aG q;exact c (by rw[this];exact mJ ..)
theorem J2(l:List ao)(a:List ao)(h:∀x∈a++l,47∉x/\x≠[]):l.foldl oP (aF a)=aF (a++l):=by
 induction l generalizing a with
 | nil=>simp
 | cons x r f =>
   have hx:=h x (by simp);have e:oP (aF a) x=aF (a++[x]):=by
    unfold oP;cases a with
    | nil=>rw[aF,aV (.inl rfl)];rfl
    | cons y q =>
      have c:aF (y::q)≠[]:=by
       have:=(h y<|by simp).2;cases q with
       | nil=>rw[aF];exact this
       | cons z q=>rw[aF];simp
      rw[aX<|by simp[c,hx.2]];have gen:∀(y:ao) (q:List ao),aF (y::q++[x])=aF (y::q)++47::x:=by
       intro y q;induction q generalizing y with
       | nil=>rfl
       | cons z q d =>
         rw[y8,y8,aF,<-y8,d z];rw[aF];simp
      exact(gen y q).symm
   rw[Qt,e,f (a++[x]) (by intro z i;exact h z (by simpa using i))];simp
theorem zT{l:List ao}(h:∀x∈l,47∉x/\x≠[])(c:l≠[]):bc (aF l)=(aF l.dropLast,l.getLast c):=by
 have d:b9 (aF l)=l:=D1 l c λx i=>(h x i).1;rcases pK (aF l) with ⟨e,f⟩|⟨a,b,j,e,f⟩
 .rw[oa _ e] at d;rw[f];generalize aF l=p at d;subst d;rfl
 .rw[f];rw[j,zR a b e] at d;subst d;rw[List.dropLast_concat,List.getLast_concat,tQ]
def ah4(a:Tx)(x:Nm):List Tx:=if x.1.take a.length=a then [x.1] else []
def aek(l:List Nm)(a:Tx):List Tx:=l.flatMap (ah4 a)
def XN(c:Tx)(f:List Tx):Tx×Int×ah:=if c=[]\/6<=c.length then([],3,()) else match f with|[]=>([],3,())|[a]=>(a,0,())|_=>([],9,())
def adv(l:List Nm)(a:Tx):Tx×Int×ah:=if ∃x∈l,x.1=a then(a,0,()) else
 match l.find? (λx=>decide (a∈x.2.1)) with|some x=>(x.1,0,())|none=>XN a (aek l a)
def J3(s:Tx):Prop:=(iD s).isSome=true/\s.length=6
theorem nw(s:Tx)(a:s.length<=1048576):∃b,fQ (s,())=some (b,())/\(b=true↔J3 s):=by
 unfold fQ;dsimp only;rw[DW s a,aa];have e6:aZ (@len UInt8 s) (6:Int)=decide (s.length=6):=by unfold aZ len;apply jV.2;omega
 refine⟨_,rfl,?_⟩;rw[e6];unfold J3 ans;cases iD s with
 | none=>simp[aj]
 | some x=>simp[aj]
abbrev It:=Tx×Tx×Tx×ah
theorem J4(l:List It)(j:l.length<=100000):gm (l,l,())=some (true,()):=by
 unfold gm;dsimp only;rw[aT rfl,aE,af];rcases pT (f:=jz (l,l,())) l (λi=>((false,i,()),())) (λ_ _=>false) (λi _=>(1,(false,(i:Int),()),())) (0,(false,(l.length:Int),()),()) (by omega) (λi x a c d=>by
  unfold jz;dsimp only;rw[aq c,ab,ab,ar a,aa,aa,cv rfl,cv rfl,cv rfl,d];rfl) (by unfold jz;dsimp only;rw[aC,af,af]) with ⟨i,x,_,e,_⟩|⟨k,h⟩
 .cases e
 .rw[h];rfl
abbrev KS:=(Int×Int×ah)×ah×Tx×ah
abbrev PS':=(Int×Int×ah)×ah×It×ah
end Go.Ge
namespace Go.Ge
set_option maxRecDepth 100000
end Go.Ge
namespace Go.Ge
variable [Lp]
theorem D3(l:List It):∃b,dY (l,())=some (b,())/\(b=true->l.length<=8/\∀x∈l,x.1.length<=100/\x.2.2.1.length<=200):=by
 unfold dY;rcases rp (f:=ef (l,())) l 8 (λi=>((false,i,()),())) (λ_ x=>decide (100<x.1.length)||decide (200<x.2.2.1.length)) (λi x=>(1,(false,(i:Int),()),())) (λm=>(0,(false,(m:Int),()),())) (by omega) (λi x c a j k=>by
  unfold ef;dsimp only;have n:∀{m:ao},ba 100 (len m)=decide (100<m.length):=λ{m}=>by unfold ba len;apply jV.2;omega
  have o:∀{m:ao},ba 200 (len m)=decide (200<m.length):=λ{m}=>by unfold ba len;apply jV.2;omega
  rw[aq a,ab,aJ (show(i:Int)<8 by omega),ab,ar c,aa,aa,n,o,k];cases decide (100<x.1.length)<;>cases decide (200<x.2.2.1.length)<;>rfl) (by
  unfold ef;dsimp only;have:aj (ba ((min 8 l.length:Nat):Int)<|len l) (ba ((min 8 l.length:Nat):Int) 8) false=false:=by
   by_cases h:l.length<=8
   .rw[Y9 h,aC,af]
   .rw[pc<|by omega,show ba ((8:Nat):Int) 8=false from rfl];cases ba ((8:Nat):Int) (len l)<;>rfl
  rw[this,af]) with ⟨i,x,a,c,q,_,h⟩|⟨d,h⟩
 .rw[h];exact⟨false,rfl,λh=>(by cases h)⟩
 .rw[h];refine⟨_,rfl,λe=>?_⟩;dsimp only at e;have p:l.length<=8:=by
   unfold da len at e;simp at e;omega
  refine⟨p,λx c=>?_⟩;obtain⟨i,a⟩:=bR.1 c;have:=d i x (by have:=aD a;omega) a;simp at this;omega
def R7(l:List It):Prop:=l.Pairwise λx y=>gf x.1 y.1=true
def ah5(x:It):Prop:=rX x.1=true/\x.2.2.1.length<=64/\x.2.1=rq x.2.2.1
def OkI(l:List It):Prop:=l.length<=4/\R7 l/\∀x∈l,ah5 x
theorem J5{l:List It}:R7 l↔∀(i:Nat) (x y:It),l[i]?=some x->l[i+1]?=some y->gf x.1 y.1=true:=by
 constructor
 .intro h i x y c a;unfold R7 at h;rw[ED] at h;obtain⟨e,n⟩:=fU.1 c;obtain⟨f,o⟩:=fU.1 a;have:=h i (i+1) e f (by omega);rw[n,o] at this;exact this
 .intro h;have key:∀(d i:Nat) (x y:It),l[i]?=some x->l[i+d+1]?=some y->gf x.1 y.1=true:=by
   intro d;induction d with
   | zero=>intro i x y c a;exact h i x y c a
   | succ d p =>
     intro i x y c a;have q:=aD a;have k:l[i+d+1]?=some l[i+d+1]:=gH (by omega);exact AR (p i x _ c k) (h (i+d+1) _ y k<|by rw[show i+d+1+1=i+(d+1)+1 by omega];exact a)
  unfold R7;rw[ED];intro i j e f r;obtain⟨d,rfl⟩:∃d,j=i+d+1:=⟨j-i-1,by omega⟩;exact key d i _ _ (gH e) (gH f)
def D4(l:List It)(i:Nat)(x:It):Bool:=match i with|0=>false|k+1=>match l[k]? with|some y=>!gf y.1 x.1|none=>false
theorem x9{l:List It}{k:Nat}{x y:It}(a:l[k]?=some y):D4 l (k+1) x=!gf y.1 x.1:=by
 unfold D4;simp only[a]
def Fy(l:List It)(i:Nat)(x:It):Bool:=!rX x.1||(decide (64<x.2.2.1.length)||(!decide (x.2.1=rq x.2.2.1)||D4 l i x))
theorem XO(l:List It)(D:l.length<=100000)(o:∀x∈l,x.1.length<=1000000/\x.2.2.1.length<=1000000):∃b,l7 (l,())=some (b,())/\(b=true↔OkI l):=by
 unfold l7;rcases pT (f:=nU (l,())) l (λi=>((false,i,()),())) (λi x=>Fy l i x) (λi x=>(1,(false,(i:Int),()),())) (0,(false,(l.length:Int),()),()) (by omega) (λi x c e p=>by
  have q:=o x (eF c);have r:ba 64 (len x.2.2.1)=decide (64<x.2.2.1.length):=by unfold ba len;apply jV.2;omega
  unfold nU;dsimp only;rw[aq e,ab,ar c,aa,yS x.1 (by omega),aa,p];cases d:rX x.1 with
  | false=>rw[show Fy l i x=true by unfold Fy;rw[d];rfl];rfl
  | true =>
    rw[aE,af,aa,r];by_cases a:64<x.2.2.1.length
    .rw[show Fy l i x=true by unfold Fy;rw[d,eu a];rfl,eu a];rfl
    .rw[cU a,af,aa,aa,Ft x.2.2.1 (by omega),aa];dsimp only;rw[AP];by_cases hd:x.2.1=rq x.2.2.1
     .have n:Fy l i x=D4 l i x:=by unfold Fy;rw[d,cU a,eu hd];rfl
      rw[n,eu hd,aE,af];cases i with
      | zero=>rfl
      | succ k =>
        have hy:l[k]?=some l[k]:=gH (by omega);rw[x9 hy,aJ (by omega),ab,dx (by omega) (by omega),show((k+1:Nat):Int)-1=(k:Int) by omega,ar hy,aa,aa];cases gf l[k].1 x.1<;>rfl
     .rw[show Fy l i x=true by unfold Fy;rw[d,cU a,cU hd];rfl,cU hd];rfl) (by
  unfold nU;dsimp only;rw[aC,af]) with ⟨i,x,c,j,_,h⟩|⟨d,h⟩
 .rw[h];refine⟨false,rfl,⟨λh=>(by cases h),λ⟨_,s,v⟩=>?_⟩⟩;obtain⟨w,E,A⟩:=v x (eF c);have n:Fy l i x=D4 l i x:=by unfold Fy;rw[w,cU (show ¬64<x.2.2.1.length by omega),eu A];rfl
  rw[n] at j;cases i with
  | zero=>cases j
  | succ k =>
    have e:=aD c;have hy:l[k]?=some l[k]:=gH (by omega);rw[x9 hy,J5.1 s k _ _ hy c] at j;cases j
 .rw[h];refine⟨_,rfl,?_⟩;dsimp only;have B:da (len l) 4=decide (l.length<=4):=by unfold da len;apply jV.2;omega
  rw[B,FW];refine⟨λC=>⟨C,J5.2 λi x y c hy=>?_,λx c=>?_⟩,λh=>h.1⟩
  .have:=d (i+1) y hy;unfold Fy at this;simp only[x9 c,vW] at this;simpa using this.2.2.2
  .obtain⟨i,e⟩:=bR.1 c;have:=d i x e;unfold Fy at this;simp only[vW] at this;exact⟨by simpa using this.1,by have:=this.2.1;simp at this;omega,by simpa using this.2.2.1⟩
abbrev fI:=Tx×Int×ah
abbrev bJ:=List zK×List nu×List ax×List Tx×List fI×ah
def D5(l:List Item):Prop:=l.length<=8/\∀x∈l,x.1.length<=100/\x.2.2.1.length<=200
structure afD (b:zL):Prop extends FewB b where
 im:∀x∈b.2.2.1,x.2.2.2.1.length<=200/\D5 x.2.2.2.2.1
 bm:∀x∈b.2.2.2.1,x.2.2.2.2.1.length<=200/\D5 x.2.2.2.2.2.1
theorem XP(b:zL):∃c,pH (b,())=some (c,())/\(c=true->afD b):=by
 obtain⟨d,p⟩:∃d:List Tx->Bool,∀l,kM (l,())=some (d l,())/\(d l=true->vg l):=⟨λl=>Classical.choose (AW l),λl=>Li (AW l)⟩;obtain⟨j,e⟩:∃d:List Item->Bool,∀l,dY (l,())=some (d l,())/\(d l=true->D5 l):=⟨λl=>Classical.choose (D3 l),λl=>Li (D3 l)⟩;obtain⟨I,a,C⟩:=aas b;refine⟨I,a,λF=>?_⟩;have G:=C F
 suffices q:(∀x∈b.2.2.1,x.2.2.2.1.length<=200/\D5 x.2.2.2.2.1)/\(∀x∈b.2.2.2.1,x.2.2.2.2.1.length<=200/\D5 x.2.2.2.2.2.1) from⟨G,q.1,q.2⟩
 subst F;obtain⟨n,y,A,B,u⟩:=b;obtain⟨J,_,s,_,K,_⟩:=G;dsimp only at J s K;unfold pH at a;have r:∀{q:Nat×(Bool×Int×ah)×ah} {g:Option (Bool×ah)},q.1=1->q.2.1.1=false->aj (du q.1 0) g (some (q.2.1.1,()))≠some (true,()):=λ{q g} L M h=>by
  rw[L,M] at h;have h:some (false,())=some (true,()):=h;cases h
 rcases rp (f:=ix ((n,y,A,B,u),())) y 40 (λi=>((false,i,()),())) (λ_ x=>!d x.2.2.1) (λi x=>(1,(false,(i:Int),()),())) (λn=>(0,(false,(n:Int),()),())) (by omega) (λi x k o v w=>by
  unfold ix;dsimp only;rw[aq o,ab,aJ (show(i:Int)<40 by omega),ab,ar k,aa,(p _).1,aa,V4,w];cases d x.2.2.1<;>rfl) (by unfold ix;dsimp only;rw[rY (c:=40) rfl,af]) with ⟨i,x,o,k,H,_,h⟩|⟨N,h⟩
 .rw[h,aa] at a;exact absurd a (r rfl rfl)
 rw[h,aa] at a;dsimp only at a;rw[bV,ab] at a;rcases rp (f:=iy ((n,y,A,B,u),())) A 40 (λi=>((false,i,()),())) (λ_ x=>!d x.2.1||decide (200<x.2.2.2.1.length)||!j x.2.2.2.2.1) (λi x=>(1,(false,(i:Int),()),())) (λn=>(0,(false,(n:Int),()),())) (by omega) (λi x k o v w=>by
  unfold iy;dsimp only;rw[aq o,ab,aJ (show(i:Int)<40 by omega),ab,ar k,aa,(p _).1,aa,aa,aa,hJ (n:=200) (c:=200) rfl,(e _).1,aa,w];dsimp only;cases d x.2.1 with
  | false=>rfl
  | true =>
    by_cases s:200<x.2.2.2.1.length
    .simp[s,aj,nt,ae]
    .cases O:j x.2.2.2.2.1<;>simp[s,aj,nt,ae]) (by unfold iy;dsimp only;rw[rY (c:=40) rfl,af]) with ⟨i,x,o,k,H,_,h⟩|⟨D,h⟩
 .rw[h,aa] at a;exact absurd a (r rfl rfl)
 rw[h,aa] at a;dsimp only at a;rw[bV,ab] at a;rcases rp (f:=iz ((n,y,A,B,u),())) B 40 (λi=>((false,i,()),())) (λ_ x=>!d x.2.1||decide (200<x.2.2.2.2.1.length)||!j x.2.2.2.2.2.1) (λi x=>(1,(false,(i:Int),()),())) (λn=>(0,(false,(n:Int),()),())) (by omega) (λi x k o v w=>by
  unfold iz;dsimp only;rw[aq o,ab,aJ (show(i:Int)<40 by omega),ab,ar k,aa,(p _).1,aa,aa,aa,hJ (n:=200) (c:=200) rfl,(e _).1,aa,w];dsimp only;cases d x.2.1 with
  | false=>rfl
  | true =>
    by_cases s:200<x.2.2.2.2.1.length
    .simp[s,aj,nt,ae]
    .cases O:j x.2.2.2.2.2.1<;>simp[s,aj,nt,ae]) (by unfold iz;dsimp only;rw[rY (c:=40) rfl,af]) with ⟨i,x,o,k,H,_,h⟩|⟨E,h⟩
 .rw[h,aa] at a;exact absurd a (r rfl rfl)
 refine⟨λx k=>?_,λx k=>?_⟩
 .dsimp only at k;obtain⟨i,o⟩:=bR.1 k;have:=D i x (by have:=aD o;omega) o;simp only[vW,FV,GK] at this;exact⟨by omega,(e _).2 this.2⟩
 .dsimp only at k;obtain⟨i,o⟩:=bR.1 k;have:=E i x (by have:=aD o;omega) o;simp only[vW,FV,GK] at this;exact⟨by omega,(e _).2 this.2⟩
theorem XQ(l:List ax):∃b,vC (l,())=some (b,())/\(b=true->l.length<=40/\∀x∈l,x.1.length<=100/\x.2.1.length<=100):=by
 unfold vC;rcases rp (f:=qo (l,())) l 40 (λi=>((false,i,()),())) (λ_ x=>decide (100<x.1.length)||decide (100<x.2.1.length)) (λi x=>(1,(false,(i:Int),()),())) (λn=>(0,(false,(n:Int),()),())) (by omega) (λi x d a k o=>by
  unfold qo;dsimp only;rw[aq a,ab,aJ (show(i:Int)<40 by omega),ab,ar d,aa,hJ (n:=100) (c:=100) rfl,aa,hJ (n:=100) (c:=100) rfl,o];by_cases h:100<x.1.length
  .simp[h,aj,nt,ae]
  .by_cases p:100<x.2.1.length<;>simp[h,p,aj,nt,ae]) (by unfold qo;dsimp only;rw[rY (c:=40) rfl,af]) with ⟨i,x,a,d,r,_,h⟩|⟨q,h⟩
 .rw[h];exact⟨false,rfl,λh=>(by cases h)⟩
 .rw[h];refine⟨_,rfl,λe=>?_⟩;dsimp only at e;rw[kN (n:=40) (c:=40) rfl] at e;have j:=kH e;refine⟨j,λx d=>?_⟩;obtain⟨i,a⟩:=bR.1 d;have:=q i x (by have:=aD a;omega) a;simp at this;omega
structure aaJ (s:bJ):Prop where
 base:afD (0,s.2.2.1,s.2.1,s.1,())
 ids:∀x∈s.2.2.1,x.1.length<=100/\x.2.1.length<=100
 lays:s.2.2.1.length<=12
 afE:s.2.2.2.1.length<=12
 ah6:∀d∈s.2.2.2.1,d.length<=8192
 mts:s.2.2.2.2.1.length<=40
theorem XR(s:bJ):∃b,vD (s,())=some (b,())/\(b=true->aaJ s):=by
 obtain⟨p,q,j,k,r,u⟩:=s;obtain⟨y,A,B⟩:=XP (0,j,q,p,());obtain⟨C,D,E⟩:=XQ j;unfold vD;rcases rp (f:=qp ((p,q,j,k,r,u),())) k 12 (λi=>((false,i,()),())) (λ_ x=>decide (8192<x.length)) (λi x=>(1,(false,(i:Int),()),())) (λn=>(0,(false,(n:Int),()),())) (by omega) (λi x v a F G=>by
  unfold qp;dsimp only;rw[aq a,ab,aJ (show(i:Int)<12 by omega),ab,ar v,aa,hJ (n:=8192) (c:=8192) rfl,sX,G];by_cases h:8192<x.length<;>simp[h]) (by unfold qp;dsimp only;rw[rY (c:=12) rfl,af]) with ⟨i,x,a,v,J,_,h⟩|⟨H,h⟩
 .rw[h];exact⟨false,rfl,λh=>(by cases h)⟩
 .rw[h,aa];dsimp only;rw[bV,ab,A,aa,D];dsimp only;rw[kN (n:=12) (c:=12) rfl,kN (n:=12) (c:=12) rfl,kN (n:=40) (c:=40) rfl];cases y with
  | false=>exact⟨false,rfl,λh=>(by cases h)⟩
  | true =>
    rw[ab,aa,aa];cases C with
    | false=>exact⟨false,rfl,λh=>(by cases h)⟩
    | true =>
      refine⟨_,rfl,λe=>?_⟩;by_cases l:j.length<=12
      .by_cases o:k.length<=12
       .by_cases w:r.length<=40
        .refine⟨B rfl,(E rfl).2,l,o,λd I=>?_,w⟩;obtain⟨i,a⟩:=bR.1 I;have a:k[i]?=some d:=a;have:=H i d (by have:=aD a;omega) a;simpa using this
        .rw[eu l,eu o,cU w] at e;cases e
       .rw[eu l,cU o] at e;cases e
      .rw[cU l] at e;cases e
theorem wo{a:Type}{c b:Bool}{o:Option Bool}{k:Bool->Option a}(h:o=some b):ae (aj c o<|some false) k=k (c&&b):=by subst h;cases c<;>rfl
theorem Ct{a:Type}{c b:Bool}{o:Option Bool}{k:Bool->Option a}(h:o=some b):ae (aj c o<|some true) k=k (!c||b):=by subst h;cases c<;>rfl
theorem oc(a b:ao):bw a b=decide (a=b):=rfl
theorem UI(b:Bool):nt b=!b:=rfl
theorem XS(a b:Int):da a b=decide (a<=b):=rfl
theorem aco(a b:Int):aZ a b=decide (a=b):=rfl
def BdL(x:ax):Prop:=x.1.length<=1048576/\x.2.1.length<=1048576/\vg x.2.2.1/\x.2.2.2.1.length<=1048576
def BdI(x:nu):Prop:=x.1.length<=1048576/\vg x.2.1/\x.2.2.1.length<=1048576/\D5 x.2.2.2.2.1
def BdB(x:zK):Prop:=x.1.length<=1048576/\vg x.2.1/\x.2.2.1.length<=1048576/\x.2.2.2.1.length<=1048576/\D5 x.2.2.2.2.2.1
structure OkL (x:ax):Prop where
 id:J3 x.1
 par:x.2.1=[]\/(J3 x.2.1/\x.2.1≠x.1)
 nms:vG x.2.2.1=true
 dig:XH x.2.2.2.1=0
 s0:0<=x.2.2.2.2.1
 s1:x.2.2.2.2.1<=8192
 b0:0<=x.2.2.2.2.2.1
 b1:x.2.2.2.2.2.1<=32
structure aaK (x:nu):Prop where
 id:J3 x.1
 nms:vG x.2.1=true
 top:x.2.2.1=[]\/J3 x.2.2.1
 afI:x.2.2.2.1.length<=64
 items:OkI x.2.2.2.2.1
structure OkB (x:zK):Prop where
 id:J3 x.1
 nms:vG x.2.1=true
 img:x.2.2.1=[]\/J3 x.2.2.1
 lay:J3 x.2.2.2.1
 afI:x.2.2.2.2.1.length<=64
 items:OkI x.2.2.2.2.2.1
theorem XT(x:ax)(h:BdL x):∃b,oI (x,())=some (b,())/\(b=true↔OkL x):=by
 obtain⟨k,l,j,n⟩:=h;obtain⟨v,o,p⟩:=nw x.1 k;obtain⟨q,r,s⟩:=nw x.2.1 l;unfold oI;dsimp only;rw[o,aa,wo (b:=(!(nt<|bw x.2.1 [])||(q&&nt (bw x.2.1 x.1)))) (by rw[Ct<|by rw[r,aa,j6]]),
  wo (by rw[x6 x.2.2.1 (j.small) j.each,aa]),wo (by rw[PC x.2.2.2.1 n,aa])]
 refine⟨_,rfl,?_⟩;simp only[j6,UI,oc,XS,aco,dv,wJ,Zl,j7,nE,GK,p,s];constructor
 .rintro⟨⟨⟨⟨⟨⟨⟨a,b⟩,c⟩,d⟩,e⟩,f⟩,g⟩,i⟩;exact⟨a,b,c,d,e,f,g,i⟩
 .rintro⟨a,b,c,d,e,f,g,i⟩;exact⟨⟨⟨⟨⟨⟨⟨a,b⟩,c⟩,d⟩,e⟩,f⟩,g⟩,i⟩
theorem NN{l:List Item}(h:D5 l):∃b,l7 (l,())=some (b,())/\(b=true↔OkI l) :=
 XO l (by have:=h.1;omega) λx a=>by have:=h.2 x a;omega
theorem afJ(m:ao):da (@len UInt8 m) (64:Int)=decide (m.length<=64):=by unfold da len;apply jV.2;omega
theorem XU(x:nu)(h:BdI x):∃b,oJ (x,())=some (b,())/\(b=true↔aaK x):=by
 obtain⟨i,f,j,k⟩:=h;obtain⟨v,l,n⟩:=nw x.1 i;obtain⟨o,p,q⟩:=nw x.2.2.1 j;obtain⟨w,r,s⟩:=NN k;unfold oJ;dsimp only;rw[l,aa,wo (by rw[x6 x.2.1 (f.small) f.each,aa]),wo (b:=(!(nt<|bw x.2.2.1 [])||o)) (by rw[Ct<|by rw[p,aa]]),
  wo (by rw[r,aa])]
 refine⟨_,rfl,?_⟩;simp only[j6,UI,oc,afJ,dv,wJ,Zl,j7,nE,GK,n,q,s];constructor
 .rintro⟨⟨⟨⟨a,b⟩,c⟩,d⟩,e⟩;exact⟨a,b,c,d,e⟩
 .rintro⟨a,b,c,d,e⟩;exact⟨⟨⟨⟨a,b⟩,c⟩,d⟩,e⟩
theorem acp(x:zK)(h:BdB x):∃b,sy (x,())=some (b,())/\(b=true↔OkB x):=by
 obtain⟨j,i,k,l,n⟩:=h;obtain⟨B,o,p⟩:=nw x.1 j;obtain⟨q,r,s⟩:=nw x.2.2.1 k;obtain⟨C,v,w⟩:=nw x.2.2.2.1 l;obtain⟨D,y,A⟩:=NN n;unfold sy;dsimp only;rw[o,aa,wo (by rw[x6 x.2.1 (i.small) i.each,aa]),wo (b:=(!(nt<|bw x.2.2.1 [])||q)) (by rw[Ct<|by rw[r,aa]]),
  wo (by rw[v,aa]),wo (by rw[y,aa])]
 refine⟨_,rfl,?_⟩;simp only[j6,UI,oc,afJ,dv,wJ,Zl,j7,nE,GK,p,s,w,A];constructor
 .rintro⟨⟨⟨⟨⟨a,b⟩,c⟩,d⟩,e⟩,f⟩;exact⟨a,b,c,d,e,f⟩
 .rintro⟨a,b,c,d,e,f⟩;exact⟨⟨⟨⟨⟨a,b⟩,c⟩,d⟩,e⟩,f⟩
def R8(b:zL):List Tx:=b.2.1.map (·.1)++b.2.2.1.map (·.1)++b.2.2.2.1.map (·.1)
def R9(b:zL):List Tx:=b.2.1.flatMap (·.2.2.1)++b.2.2.1.flatMap (·.2.1)++b.2.2.2.1.flatMap (·.2.1)
theorem xv{a:Type}{g:a->List Tx}:∀{l:List a},(∀x∈l,(g x).length<=8)->(l.flatMap g).length<=8*l.length:=by
 intro l;induction l with
 | nil=>intro _;simp
 | cons x r c =>
   intro h;rw[Y7,gI,dh];have:=h x (mJ ..);have:=c λy d=>h y (oh _ d);omega
theorem Cu{k:Type}{f:(ah×ah×Int×ah)×List Tx×List Tx×ah->Option (((ah×ah×Int×ah)×List Tx×List Tx×ah)⊕((ah×ah×Int×ah)×List Tx×List Tx×ah))}
  (l:List k) (id:k->Tx) (d:k->List Tx) (s:l.length<=40) (o:∀x∈l,(d x).length<=8) (e i:List Tx) (v:e.length<=10000) (w:i.length<=10000)
  (p:∀c a b,f (((),(),c,()),a,b,())=dK (aj (ba c<|len l) (ae (idx l c) λx=>aj (fits<|plus (@len Tx b)<|@len Tx [id x]) (ae (idx l c) λy=>aj (fits<|plus (@len Tx a)<|@len Tx<|d y) (some<|.inl (((),(),aB .i64 c 1,()),app a<|d y,app b [id x],())) none) none)
   (some<|.inr (0,((),(),c,()),a,b,()))) ) :
  Loop f (((),(),(0:Int),()),e,i,())=some (((),(),(l.length:Int),()),e++l.flatMap d,i++l.map id,()):=by
 have:=cP (f:=f) l.length (λj:Nat=>(((),(),(j:Int),()),e++(l.take j).flatMap d,i++(l.take j).map id,()))
  (r:=(((),(),(l.length:Int),()),e++l.flatMap d,i++l.map id,())) (λj n=>by
   have hx:l[j]?=some l[j]:=gH n;have A:((l.take j).flatMap d).length<=8*40:=by
    have:=xv (g:=d) (l:=l.take j) λx hx=>o x (EE hx);rw[fT] at this;omega
   have q:=o _ (Zb n);rw[p,aq n,ab,ar hx,aa,
    show fits (plus (@len Tx<|i++(l.take j).map id)<|@len Tx [id l[j]])=true from bP (by rw[gI,sR,fT];show _+1<=_;omega),ab,aa,
    show fits (plus (@len Tx<|e++(l.take j).flatMap d)<|@len Tx<|d l[j])=true from bP (by rw[gI];omega),ab,aK (by omega)]
   rw[Ba,hx,List.flatMap_append,xE];simp[app,dK]) (by
   rw[wI,p,aC,af];rfl)
 simpa using this
theorem XV(b:zL)(h:FewB b):rU (b,())=some (R8 b,R9 b,()):=by
 obtain⟨i,e,j,f,k,n⟩:=h;unfold rU;rw[Cu b.2.1 (·.1) (·.2.2.1) i (λx d=>(e x d).1) [] [] (by simp) (by simp)<|λc a b=>rfl,aa];dsimp only;have o:(b.2.1.flatMap (·.2.2.1)).length<=320:=by have:=xv (g:=λx:ax=>x.2.2.1) (l:=b.2.1) λx d=>(e x d).1;omega
 have p:(b.2.2.1.flatMap (·.2.1)).length<=320:=by have:=xv (g:=λx:nu=>x.2.1) (l:=b.2.2.1) λx d=>(f x d).1;omega
 rw[Cu b.2.2.1 (·.1) (·.2.1) j (λx d=>(f x d).1) _ _ (by rw[sd];omega) (by rw[sd,sR];omega)<|λc a b=>rfl,aa];dsimp only;rw[Cu b.2.2.2.1 (·.1) (·.2.1) k (λx d=>(n x d).1) _ _ (by rw[gI,sd];omega) (by rw[gI,sd,sR,sR];omega)<|λc a b=>rfl,aa];rfl
theorem UJ{b:Bool}{p:Prop}[Decidable p](h:b=true↔p):b=decide p:=by
 cases b with
 | true=>exact(eu<|h.1 rfl).symm
 | false=>exact(cU λq=>by cases h.2 q).symm
open Classical in
theorem XW{x:ax}(h:BdL x):oI (x,())=some (decide<|OkL x,()):=by
 obtain⟨b,a,c⟩:=XT x h;rw[a,UJ c]
open Classical in
theorem XX{x:nu}(h:BdI x):oJ (x,())=some (decide<|aaK x,()):=by
 obtain⟨b,a,c⟩:=XU x h;rw[a,UJ c]
open Classical in
theorem acq{x:zK}(h:BdB x):sy (x,())=some (decide<|OkB x,()):=by
 obtain⟨b,a,c⟩:=acp x h;rw[a,UJ c]
abbrev Cs:=(Int×Int×ah)×ah
theorem J6{e:Type}{f:Cs->Option (Cs⊕(Nat×Cs))}(l:List e)(s:l.length<=1000000)(p:e->Prop)[DecidablePred p](a:Int)
  (k:∀(i:Nat) (x:e),l[i]?=some x->f ((a,(i:Int),()),())=some (if p x then .inl ((a,aB .i64 (i:Int) 1,()),()) else .inr (1,((1:Int),(i:Int),()),())))
  (c:f ((a,(l.length:Int),()),())=some (.inr (0,(a,(l.length:Int),()),()))) :
  ((∀x∈l,p x)/\Loop f ((a,(0:Int),()),())=some (0,(a,(l.length:Int),()),())) \/
  (¬(∀x∈l,p x)/\∃q,Loop f ((a,(0:Int),()),())=some (1,((1:Int),q),())):=by
 rcases pT (f:=f) l (λi=>((a,i,()),())) (λ_ x=>decide (¬p x)) (λi x=>(1,((1:Int),(i:Int),()),())) (0,(a,(l.length:Int),()),()) (by omega) (λi x d j n=>by
  rw[k i x d,n];by_cases h:p x<;>simp[h]) c with ⟨i,x,d,o,_,h⟩|⟨r,h⟩
 .exact .inr ⟨λq=>by simp[q x<|eF d] at o,_,h⟩
 .refine .inl ⟨λx d=>?_,h⟩;obtain⟨i,j⟩:=bR.1 d;have:=r i x j;simpa using this
theorem J7{l:List Tx}:l.Pairwise (λx y=>gf x y=true)↔∀(i:Nat) (x y:Tx),l[i]?=some x->l[i+1]?=some y->gf x y=true:=by
 have h:=J5 (l:=l.map λs=>((s,[],[],()):It));unfold R7 at h;rw[Vs] at h;refine h.trans ⟨λk i x y c d=>?_,λk i x y c d=>?_⟩
 .exact k i (x,[],[],()) (y,[],[],()) (by rw[wH,c];rfl) (by rw[wH,d];rfl)
 .rw[wH] at c d;obtain⟨a,e,rfl⟩:=r9.1 c;obtain⟨b,f,rfl⟩:=r9.1 d;exact k i a b e f
theorem acr(a e:List Tx)(r:a.length<=100000) :
  (a.Pairwise (λx y=>gf x y=true)/\∃q,Loop (ib (a,e,())) (((0:Int),(1:Int),()),())=some (0,((0:Int),q),())) \/
  (¬a.Pairwise (λx y=>gf x y=true)/\∃q,Loop (ib (a,e,())) (((0:Int),(1:Int),()),())=some (1,((1:Int),q),())):=by
 rw[J7];rcases pT (f:=ib (a,e,())) a.tail (λi=>(((0:Int),i+1,()),())) (λi y=>match a[i]? with|some x=>!gf x y|none=>false) (λi x=>(1,((1:Int),(i:Int)+1,()),())) (0,((0:Int),(a.tail.length:Int)+1,()),()) (by rw[Zc];omega) (λi y c l s=>by
  rw[Zc] at l;rw[Y2] at c;obtain⟨x,d⟩:∃x,a[i]?=some x:=⟨_,gH (show i<a.length by omega)⟩;unfold ib;dsimp only;rw[show((i:Int)+1)=((i+1:Nat):Int) by omega,aq (by omega),ab,dx (by omega) (by omega),show((i+1:Nat):Int)-1=(i:Int) by omega,ar d,aa,ar c,aa,aK (by omega),d];dsimp only;rw[show((i+1:Nat):Int)+1=((i+1+1:Nat):Int) by omega];by_cases n:gf x y=true<;>simp[n,nt,aj]) (by
  unfold ib;dsimp only;rw[Zc,aA (by unfold len;omega),af]) with ⟨i,y,c,j,_,h⟩|⟨o,h⟩
 .refine .inr ⟨λk=>?_,_,h⟩;rw[Y2] at c;have p:=aD c;have d:a[i]?=some a[i]:=gH (by omega);rw[d] at j;simp[k i _ _ d c] at j
 .refine .inl ⟨λi x y d c=>?_,_,h⟩;have:=o i y (by rw[Y2];exact c);rw[d] at this;simpa using this
theorem UK(o a:List Tx)(K:a.length<=100000) :
  (a.Nodup/\∃q,Loop (ig (o,a,())) (((0:Int),(0:Int),()),())=some (0,((0:Int),q),())) \/
  (¬a.Nodup/\∃q,Loop (ig (o,a,())) (((0:Int),(0:Int),()),())=some (1,((1:Int),q),())):=by
 have inner:∀(i:Nat) (x:Tx),a[i]?=some x->(∃j y,j<i/\a[j]?=some y/\y=x/\∃q,Loop (ic (o,a,()) (((0:Int),(i:Int),()),())) (((0:Int),(0:Int),()),())=some (1,((1:Int),q),())) \/
   ((∀(j:Nat) (y:Tx),j<i->a[j]?=some y->y≠x)/\∃q,Loop (ic (o,a,()) (((0:Int),(i:Int),()),())) (((0:Int),(0:Int),()),())=some (0,((0:Int),q),())):=by
  intro i x e;have hi:=aD e;have r:min i a.length=i:=by omega
  rcases rp (f:=ic (o,a,()) (((0:Int),(i:Int),()),())) a i (λj=>(((0:Int),j,()),())) (λ_ y=>decide (y=x)) (λj y=>(1,((1:Int),(j:Int),()),())) (λn=>(0,((0:Int),(n:Int),()),())) (by omega) (λj y k l c C=>by
   unfold ic;dsimp only;rw[aJ<|show(j:Int)<(i:Int) by omega,ab,ar k,aa,ar e,aa,sX,C];by_cases h:y=x<;>simp[bw,h]) (by
   unfold ic;dsimp only;rw[r,aA (qJ _),af]) with ⟨j,y,c,k,D,_,h⟩|⟨s,h⟩
  .exact .inl ⟨j,y,c,k,kH D,_,h⟩
  .exact .inr ⟨λj y c k=>Ol (s j y c k),_,h⟩
 have d:∀i x,a[i]?=some x->(x∈a.take i↔∃j y,j<i/\a[j]?=some y/\y=x):=by
  intro i x e;rw[bR];constructor
  .rintro⟨j,l⟩;rw[fA] at l;split at l
   .exact⟨j,x,by assumption,l,rfl⟩
   .cases l
  .rintro⟨j,y,c,k,rfl⟩;exact⟨j,by rw[fA,aV c];exact k⟩
 rcases pT (f:=ig (o,a,())) a (λi=>(((0:Int),i,()),())) (λi x=>decide (x∈a.take i)) (λi x=>(1,((1:Int),(i:Int),()),())) (0,((0:Int),(a.length:Int),()),()) (by omega) (λi x p hi C=>by
  unfold ig;dsimp only;rw[aq hi,ab];rcases inner i x p with ⟨j,y,v,w,A,q,h⟩|⟨s,q,h⟩
  .rw[h,aa,eu ((d i x p).2 ⟨j,y,v,w,A⟩)];rfl
  .rw[h,aa,cU (λE=>by obtain⟨j,y,v,w,A⟩:=(d i x p).1 E;exact s j y v w A),C];rfl) (by unfold ig;dsimp only;rw[aC,af]) with ⟨i,x,p,D,_,h⟩|⟨s,h⟩
 .refine .inr ⟨λF=>?_,_,h⟩;obtain⟨j,y,v,w,A⟩:=(d i x p).1 (kH D);obtain⟨G,B⟩:=fU.1 p;obtain⟨H,I⟩:=fU.1 w;exact ED.1 F j i H G v (by rw[I,B,A])
 .refine .inl ⟨ED.2 λj i l hi c J=>?_,_,h⟩;have:=s i a[i] (gH hi);have E:=(d i a[i]<|gH hi).2 ⟨j,a[j],c,gH l,J⟩;simp[E] at this
structure BdX (b:zL):Prop extends FewB b where
 xl:∀x∈b.2.1,BdL x
 xi:∀x∈b.2.2.1,BdI x
 xb:∀x∈b.2.2.2.1,BdB x
def XY(a:Int)(b:zL):Nat:=if a=1 then b.2.2.2.1.length else if a=2 then b.2.2.1.length else b.2.1.length
structure ya (kind:Int) (b:zL):Prop where
 few:XY kind b<=32
 only:b.2.2.2.1.length+b.2.2.1.length+b.2.1.length=XY kind b
 ll:∀x∈b.2.1,OkL x
 il:∀x∈b.2.2.1,aaK x
 bl:∀x∈b.2.2.2.1,OkB x
 ids:(R8 b).Pairwise (λx y=>gf x y=true)
 nms:(R9 b).Nodup
open Classical in
theorem zU(c:Int)(b:zL)(L:c=1\/c=2\/c=3)(M:b.1=0)(h:BdX b):∃e,l8 (c,b,())=some (e,())/\(e=0↔ya c b):=by
 obtain⟨n,k,d,j,u⟩:=b;dsimp only at M;subst M;have Q:=XV (0,k,d,j,u) h.toFewB;obtain⟨N,r,O,s,v,w⟩:=h.toFewB;obtain⟨R,S,T⟩:=(⟨h.xl,h.xi,h.xb⟩:(∀x∈k,BdL x)/\(∀x∈d,BdI x)/\(∀x∈j,BdB x));dsimp only at N r O s v w;have y:idx ([(0:Int),@len zK j,@len nu d,@len ax k]:List Int) c=some ((XY c (0,k,d,j,u):Nat):Int):=by
  rcases L with rfl|rfl|rfl<;>rfl
 have P:XY c (0,k,d,j,u)<=40:=by
  rcases L with rfl|rfl|rfl
  .exact v
  .exact O
  .exact N
 unfold l8;dsimp only;rw[aA<|by omega,af,aA (by omega),af,show ba (0:Int) 0=false from rfl,af,show ba (9007199254740992:Int) 0=false from rfl,af,aU (by omega) (by omega),ab,y,aa];by_cases A:XY c (0,k,d,j,u)<=32
 rotate_left
 .rw[aJ<|by omega,ab];exact⟨1,rfl,λq=>(by cases q),λq=>absurd q.few A⟩
 rw[aA<|by omega,af,show within (1:Int) 4=true from rfl,ab,show idx ([(0:Int),@len zK j,@len nu d,@len ax k]:List Int) 1=some (len j) from rfl,aa,show within (2:Int) 4=true from rfl,ab,
  show idx ([(0:Int),@len zK j,@len nu d,@len ax k]:List Int) 2=some (len d) from rfl,aa,show within (3:Int) 4=true from rfl,ab,show idx ([(0:Int),@len zK j,@len nu d,@len ax k]:List Int) 3=some (len k) from rfl,aa,ab,aa,
  fk (a:=len j) (b:=len d) (by unfold len;omega) (by unfold len;omega),fk (by unfold len;omega) (by unfold len;omega)]
 by_cases p:j.length+d.length+k.length=XY c (0,k,d,j,u)
 rotate_left
 .rw[aN<|by unfold len;omega,az,ab];exact⟨1,rfl,λq=>(by cases q),λq=>absurd q.only p⟩
 rw[aT<|by unfold len;omega,aE,af];rcases J6 (f:=nW (c,(0,k,d,j,u),())) k (by omega) OkL 0 (λi x o=>by
  unfold nW;dsimp only;rw[aq<|aD o,ab,ar o,aa,XW (R x<|eF o),aa];by_cases q:OkL x<;>simp[q,nt,aj]) (by unfold nW;dsimp only;rw[aC,af]) with ⟨B,C⟩|⟨B,q,C⟩
 rotate_left
 .rw[C,aa];exact⟨1,rfl,λq=>(by cases q),λq=>absurd q.ll B⟩
 rw[C,aa];dsimp only;rw[bV,ab];rcases J6 (f:=nX (c,(0,k,d,j,u),())) d (by omega) aaK 0 (λi x o=>by
  unfold nX;dsimp only;rw[aq<|aD o,ab,ar o,aa,XX (S x<|eF o),aa];by_cases q:aaK x<;>simp[q,nt,aj]) (by unfold nX;dsimp only;rw[aC,af]) with ⟨D,E⟩|⟨D,q,E⟩
 rotate_left
 .rw[E,aa];exact⟨1,rfl,λq=>(by cases q),λq=>absurd q.il D⟩
 rw[E,aa];dsimp only;rw[bV,ab];rcases J6 (f:=nY (c,(0,k,d,j,u),())) j (by omega) OkB 0 (λi x o=>by
  unfold nY;dsimp only;rw[aq<|aD o,ab,ar o,aa,acq (T x<|eF o),aa];by_cases q:OkB x<;>simp[q,nt,aj]) (by unfold nY;dsimp only;rw[aC,af]) with ⟨F,G⟩|⟨F,q,G⟩
 rotate_left
 .rw[G,aa];exact⟨1,rfl,λq=>(by cases q),λq=>absurd q.bl F⟩
 rw[G,aa];dsimp only;rw[bV,ab,Q,aa];have W:(k.flatMap (·.2.2.1)).length<=320:=by have:=xv (g:=λx:ax=>x.2.2.1) (l:=k) λx o=>(r x o).1;omega
 have X:(d.flatMap (·.2.1)).length<=320:=by have:=xv (g:=λx:nu=>x.2.1) (l:=d) λx o=>(s x o).1;omega
 have Y:(j.flatMap (·.2.1)).length<=320:=by have:=xv (g:=λx:zK=>x.2.1) (l:=j) λx o=>(w x o).1;omega
 rcases acr (R8 (0,k,d,j,u)) (R9 (0,k,d,j,u)) (by unfold R8;simp only[gI,sR];omega) with ⟨H,U,I⟩|⟨H,U,I⟩
 rotate_left
 .rw[I,aa];exact⟨1,rfl,λq=>(by cases q),λq=>absurd q.ids H⟩
 rw[I,aa];dsimp only;rw[bV,ab];rcases UK (R8 (0,k,d,j,u)) (R9 (0,k,d,j,u)) (by unfold R9;simp only[gI];omega) with ⟨J,V,K⟩|⟨J,V,K⟩
 rotate_left
 .rw[K,aa];exact⟨1,rfl,λq=>(by cases q),λq=>absurd q.nms J⟩
 rw[K,aa];exact⟨0,rfl,λ_=>⟨A,p,B,D,F,H,J⟩,λ_=>rfl⟩
theorem L2(s:ao)(r:s.length<=1048576)(m:Int):∀(n i:Nat),s.length-i<=n->i<=s.length->∃q,Loop (fF (s,m,())) ((false,(i:Int),()),())=some q/\(if vI (s.drop i) then q.1=0 else q.1=1/\q.2.1.1=false):=by
 intro n;induction n with
 | zero =>
   intro i h l;have:i=s.length:=by omega
   subst this;rw[aI];refine⟨(0,(false,(s.length:Int),()),()),?_,?_⟩
   .unfold fF;dsimp only;rw[aA<|by simp only[len];omega,af];rfl
   .rw[Iv,aV (by intro x a;cases a)]
 | succ n o =>
   intro i h l;rw[aI];by_cases f:i<s.length
   .have hd:s.drop i=s[i]::s.drop (i+1):=y7 f;have e0:fF (s,m,()) ((false,(i:Int),()),())=if s[i]=0 then some (.inr (1,(false,(i:Int),()),())) else some (.inl ((false,((i+1:Nat):Int),()),())):=by
     unfold fF;dsimp only;rw[aJ<|by simp only[len];omega,ab,AY s f,aa];by_cases c:s[i]=0
     .rw[c,show aZ (u8 0) 0=true from rfl,ab,aV rfl]
     .rw[show aZ (u8 s[i]) 0=false from aN (λe=>c (Uz (b:=0) e)),af,aX c,aK (by omega)]
    rw[e0];by_cases c:s[i]=0
    .rw[aV c];refine⟨_,rfl,?_⟩;rw[aX λd=>d s[i] (by rw[hd];exact mJ ..) c];exact⟨rfl,rfl⟩
    .rw[aX c];obtain⟨q,p,j⟩:=o (i+1) (by omega) (by omega);refine⟨q,p,?_⟩;have e:vI (s.drop i)↔vI (s.drop<|i+1):=by
      rw[hd];constructor
      .intro h x a;exact h x (oh _ a)
      .intro h x a;rcases gd.1 a with rfl|a
       .exact c
       .exact h x a
     by_cases d:vI (s.drop<|i+1)
     .rw[aV d] at j;rw[aV<|e.2 d];exact j
     .rw[aX d] at j;rw[aX λk=>d (e.1 k)];exact j
   .have:i=s.length:=by omega
    subst this;refine⟨(0,(false,(s.length:Int),()),()),?_,?_⟩
    .unfold fF;dsimp only;rw[aA<|by simp only[len];omega,af];rfl
    .rw[Iv,aV (by intro x a;cases a)]
theorem D6(s:ao)(d:s.length<=1048576)(m:Int):lZ (s,m,())=some (decide<|Tf s m,()):=by
 unfold lZ;dsimp only;obtain⟨q,f,a⟩:=L2 s d m s.length 0 (by omega) (by omega);rw[show Loop (fF (s,m,())) ((false,0,()),())=some q from f,aa];rw[wK] at a;by_cases c:vI s
 .rw[aV c] at a;rw[a,show du 0 0=true from rfl,ab];by_cases h:s=[]
  .subst h;rw[fu<|by decide,af,cU λe=>e.1 rfl]
  .have:=Iq.2 h;rw[dc<|by simp only[len];omega,ab];unfold da;rw[show decide (len s<=m)=decide (Tf s m) from jV.2 ⟨λe=>⟨h,e,c⟩,λe=>e.2.1⟩]
 .rw[aX c] at a;rw[a.1,show du 1 0=false from rfl,af,a.2,cU λe=>c e.2.2]
theorem xw(n b:Int):ph (n,b,())=some (decide<|H6 n b,()):=Cq n b
theorem acs(h:Hd)(m:Int)(x:h.1.length<=1048576)(y:h.2.2.2.2.2.2.2.1.length<=1048576):sw (h,m,())=some (decide<|HB h m,()):=by
 unfold sw;dsimp only;have a:(aj (aZ h.2.1 3) (ae (lZ (h.2.2.2.2.2.2.2.1,100,())) λA=>some ((A.1,()),()))<|some ((bw h.2.2.2.2.2.2.2.1 [],()),())) =
   some ((decide<|(h.2.1=3/\Tf h.2.2.2.2.2.2.2.1 100)\/(h.2.1≠3/\h.2.2.2.2.2.2.2.1=[]),()),()):=by
  by_cases r:h.2.1=3
  .rw[r,gx,ab,D6 _ y,aa];rw[show decide (Tf h.2.2.2.2.2.2.2.1 100)=decide (((3:Int)=3/\Tf h.2.2.2.2.2.2.2.1 100)\/((3:Int)≠3/\h.2.2.2.2.2.2.2.1=[])) from jV.2 (by simp)]
  .rw[aN r,af];unfold bw;rw[show decide (h.2.2.2.2.2.2.2.1=[])=decide ((h.2.1=3/\Tf h.2.2.2.2.2.2.2.1 100)\/(h.2.1≠3/\h.2.2.2.2.2.2.2.1=[])) from jV.2 (by simp[r])]
 rw[a,aa,D6 _ x,aa];dsimp only;have B:∀{p:Prop} [Decidable p],¬p->decide p=false:=λ{p} _ h=>cU h;by_cases d:Tf h.1 m
 case neg=>rw[cU d,af,af,af,aa,af,aa,af,aa,af,aa,af,aa,af,af,cU λe=>d e.2.2.2.2.2.1]
 rw[eu d,ab];have c:HB h m->1<=h.2.1/\h.2.1<=3:=λe=>by
  rcases e.2.2.2.2.2.2 with k|k|k<;>omega
 by_cases v:1<=h.2.1
 case neg=>rw[fu<|by omega,af,af,aa,af,aa,af,aa,af,aa,af,aa,af,af,cU λe=>v (c e).1]
 rw[dc v,ab];by_cases w:h.2.1<=3
 case neg=>rw[fu<|by omega,af,aa,af,aa,af,aa,af,aa,af,aa,af,af,cU λe=>w (c e).2]
 rw[dc w,ab,xw,aa,aa];by_cases f:H6 h.2.2.1 2097152
 case neg=>rw[cU f,af,aa,af,aa,af,aa,af,aa,af,af,cU λe=>f e.1]
 rw[eu f,ab,xw,aa,aa];by_cases i:H6 h.2.2.2.1 2097152
 case neg=>rw[cU i,af,aa,af,aa,af,aa,af,af,cU λe=>i e.2.1]
 rw[eu i,ab,xw,aa,aa];by_cases j:H6 h.2.2.2.2.1 2097152
 case neg=>rw[cU j,af,aa,af,aa,af,af,cU λe=>j e.2.2.1]
 rw[eu j,ab,xw,aa,aa];by_cases l:H6 h.2.2.2.2.2.1 8589934592
 case neg=>rw[cU l,af,aa,af,af,cU λe=>l e.2.2.2.1]
 rw[eu l,ab,xw,aa,aa];by_cases n:H6 h.2.2.2.2.2.2.1 8589934592
 case neg=>rw[cU n,af,af,cU λe=>n e.2.2.2.2.1]
 rw[eu n,ab];have C:decide (HB h m)=decide (kindOk h):=jV.2 ⟨λe=>e.2.2.2.2.2.2,λe=>⟨f,i,j,l,n,d,e⟩⟩;rw[C];have s:h.2.1=1\/h.2.1=2\/h.2.1=3:=by omega
 by_cases o:h.2.2.2.2.2.1=0
 .rw[aT o,aE,af,ab];rw[show decide ((h.2.1=3/\Tf h.2.2.2.2.2.2.2.1 100)\/(h.2.1≠3/\h.2.2.2.2.2.2.2.1=[]))=decide (kindOk h) from jV.2 (by
   unfold kindOk;rcases s with k|k|k<;>simp[k,o])]
 .rw[aN o,az,ab];by_cases q:h.2.1=1
  .rw[aT q,ab];rw[show decide ((h.2.1=3/\Tf h.2.2.2.2.2.2.2.1 100)\/(h.2.1≠3/\h.2.2.2.2.2.2.2.1=[]))=decide (kindOk h) from jV.2 (by unfold kindOk;simp[q])]
  .rw[aN q,af];rw[show decide (kindOk h)=false from cU (by unfold kindOk;simp[q,o])]
def D7(b:ao)(k:Nat):Nat:=if 148<=k/\k<156 then 32 else(b.getD k 0).toNat
def pM(b:ao):Nat->Nat
 | 0=>0
 | k+1=>pM b k+D7 b k
theorem J8(b:ao)(k:Nat):D7 b k<=255:=by
 unfold D7;have:=(b.getD k 0).toNat_lt;split<;>omega
theorem Sa(b:ao)(k:Nat):pM b k<=255*k:=by
 induction k with
 | zero=>exact bZ _
 | succ k a=>have:=J8 b k;simp only[pM];omega
theorem UL:idx ([(0,100,()),(100,8,()),(108,8,()),(116,8,()),(124,12,()),(136,12,()),(148,8,()),(156,1,()),(157,100,()),(257,8,()),(345,155,())]:List (Int×Int×ah)) 6=some (148,8,()):=rfl
theorem Fz(b:ao)(j:b.length<=1048576):tC (b,())=some ((pM b b.length:Int),()):=by
 unfold tC lB;rw[aa];dsimp only;rw[UL,aa,de (by simp only[len];omega),ab];have key:Loop (lC (b,()) (148,8,())) ((0,0,()),())=some (((pM b b.length:Int),(b.length:Int),()),()) :=
  cP (f:=lC (b,()) (148,8,())) (r:=(((pM b b.length:Int),(b.length:Int),()),())) b.length (λk=>(((pM b k:Int),(k:Int),()),())) (λk c=>by
   unfold lC;dsimp only;have l:=Sa b k;have n:=J8 b k;have a:b.getD k 0=b[k]:=by simp[Of,c]
   rw[kC,aJ (by omega),ab,aU (by omega) (by omega),ab,xp b c,aa,cR,aK (by omega),show aB .i64 148 8=156 from by decide];have i:(aj (aj (da 148 (k:Int)) (ba (k:Int) 156) false) (((32:Int),()),()) ((u8 b[k],()),())).1.1=(D7 b k:Int):=by
    unfold D7;by_cases h:148<=k
    .by_cases d:k<156
     .rw[dc<|by omega,ab,aJ (by omega),ab,aV ⟨h,d⟩];rfl
     .rw[dc<|by omega,ab,aA (by omega),af,aX (λe=>d e.2),a];rfl
    .rw[fu<|by omega,af,af,aX (λe=>h e.1),a];rfl
   rw[i,xZ (by omega) (by omega),show aB .i64 (pM b k:Int) (D7 b k:Int)=((pM b k+D7 b k:Nat):Int) from uO (by omega)];rfl) (by
   unfold lC;dsimp only;rw[kC,aA (by omega),af,dJ])
 rw[key,aa]
theorem D8(b:ao)(j:b.length<=1048576):vy (b,())=some ((pM b b.length:Int),()):=by
 unfold vy;have key:Loop (na (b,())) ((0,0,()),())=some (((pM b b.length:Int),(b.length:Int),()),()) :=
  cP (f:=na (b,())) (r:=(((pM b b.length:Int),(b.length:Int),()),())) b.length (λk=>(((pM b k:Int),(k:Int),()),())) (λk c=>by
   unfold na;dsimp only;have l:=Sa b k;have n:=J8 b k;have a:b.getD k 0=b[k]:=by simp[Of,c]
   have o:=b[k].toNat_lt;have e:∀v:Nat,v=D7 b k->aB .i64 (pM b k:Int) (v:Int)=((pM b (k+1):Nat):Int):=λv i=>by
    rw[i,uO (by omega)];rfl
   rw[aJ<|by simp only[len];omega,ab];unfold D7 at e;by_cases h:148<=k
   .by_cases d:k<156
    .rw[dc<|by omega,ab,aJ (by omega),ab,aa,cR,aK (by omega)];dsimp only;rw[show aB .i64 (pM b k:Int) 32=_ from e 32 (by rw[aV ⟨h,d⟩])]
    .rw[dc<|by omega,ab,aA (by omega),af,AY b c,aa,aa,cR,aK (by omega)];dsimp only;rw[show ka .i64 (u8 b[k])=(b[k].toNat:Int) from xZ (by unfold u8;omega) (by unfold u8;omega),e b[k].toNat (by rw[aX<|λe=>d e.2,a])]
   .rw[fu<|by omega,af,af,AY b c,aa,aa,cR,aK (by omega)];dsimp only;rw[show ka .i64 (u8 b[k])=(b[k].toNat:Int) from xZ (by unfold u8;omega) (by unfold u8;omega),e b[k].toNat (by rw[aX<|λe=>h e.1,a])]) (by
   unfold na;dsimp only;rw[aA<|by simp only[len];omega,af,dJ])
 rw[key,aa]
def nx(n:Nat):ao:=List.replicate n 0
theorem Cv(n:Nat):(nx n).length=n:=Ql
def mz:ao:=[117,115,116,97,114,0,48,48]
theorem UM(a:List ao)(k:Nat)(c:k<a.length):a.flatten=(a.take k).flatten++(a[k]++(a.drop<|k+1).flatten):=by
 conv=>lhs;rw[<-vV k a,y7 c]
 rw[List.flatten_append,Y4]
theorem aaL(a:List ao)(k:Nat)(c:k<a.length)(x:ao):(a.set k x).flatten=(a.take k).flatten++(x++(a.drop<|k+1).flatten):=by
 rw[acY,aV c,List.flatten_append,Y4]
theorem aaM(A z R s:ao)(a:Nat)(c:A.length=a)(d:s.length<=z.length):over (av<|A++(z++R)) (a:Int) (av s)=av (A++((s++z.drop s.length)++R)):=by
 unfold over;rw[sQ,fS];have e:(av<|A++(z++R)).take a=av A:=by rw[zN,CK c]
 have f:(av<|A++(z++R)).drop (a+s.length)=av (z.drop s.length++R):=by
  have:(A++(z++R)).drop (a+s.length)=z.drop s.length++R:=by
   rw[<-c,<-vb,Bb,WC d]
  rw[<-this];simp[av,Zg]
 rw[e,f,<-r0,<-r0,kP,kP]
theorem ov(c:List ao)(k:Nat)(d:k<c.length)(s:ao)(n l a:Nat)(f:c[k]=nx n)(i:s.length=l)(j:l<=n)(o:(c.take k).flatten.length=a)(p:a+l<=512) :
  over (av c.flatten) (a:Int) (jj (av s)<|minus 512 (a:Int))=av (c.set k<|s++nx (n-l)).flatten:=by
 have e:jj (av s) (minus 512 (a:Int))=av s:=by
  unfold jj minus;rw[A8];rw[fS];omega
 rw[e,UM c k d,aaM _ _ _ _ a o (by rw[f,Cv];omega),aaL c k d,f,i];simp[nx]
def aaN(h:Hd)(m u g z t:Nat)(a:UInt8)(c:ao):List ao:=[h.1++nx (100-h.1.length),UC m 7++nx 1,UC u 7++nx 1,UC g 7++nx 1,UC z 11++nx 1,UC t 11++nx 1,c,[a]++nx 0,h.2.2.2.2.2.2.2.1++nx (100-h.2.2.2.2.2.2.2.1.length),mz++nx 0,nx 80,nx 155,nx 12]
def Wc:List (Int×Int×ah):=[(0,100,()),(100,8,()),(108,8,()),(116,8,()),(124,12,()),(136,12,()),(148,8,()),(156,1,()),(157,100,()),(257,8,()),(345,155,())]
theorem UN:lB ()=some (Wc,()):=rfl
structure Fits (h:Hd) (m u g z t:Nat) (kd:UInt8):Prop where
 path:h.1.length<=100
 link:h.2.2.2.2.2.2.2.1.length<=100
 m:h.2.2.1=(m:Int)/\m<2097152
 u:h.2.2.2.1=(u:Int)/\u<2097152
 g:h.2.2.2.2.1=(g:Int)/\g<2097152
 z:h.2.2.2.2.2.1=(z:Int)/\z<8589934592
 t:h.2.2.2.2.2.2.1=(t:Int)/\t<8589934592
 kind:(h.2.1=1/\kd=48)\/(h.2.1=2/\kd=53)\/(h.2.1=3/\kd=50)
def ah7(h:Hd)(m u g z t:Nat)(a:UInt8):ao:=(aaN h m u g z t a<|UC (pM (aaN h m u g z t a<|nx 8).flatten 512) 6++[0,32]).flatten
theorem HC(s:ao)(j:s.length<=1048576):∃n c,dm (s,())=some (n,c,()):=by
 unfold dm;dsimp only;cases l:(aj (nt<|ba (len s) 1) (ba 21<|len s) true) with
 | true=>exact⟨0,false,rfl⟩
 | false =>
   rw[af,de (by simp only[len];omega),ab];have key:∀(k i:Nat) (v:Int),s.length-i<=k->i<=s.length->∃q,Loop (bK (s,())) ((0,false,v,(i:Int),()),())=some q:=by
    intro k;induction k with
    | zero =>
      intro i v h d;rw[aI];unfold bK;dsimp only;rw[kC,aA (by omega),af];exact⟨_,rfl⟩
    | succ k e =>
      intro i v h d;by_cases a:i<s.length
      .cases hd:(aj (nt<|ba (u8 s[i]) 48) (ba 55<|u8 s[i]) true) with
       | true =>
         have e0:bK (s,()) ((0,false,v,(i:Int),()),())=some (.inr (1,(0,false,v,(i:Int),()),())):=by
          unfold bK;dsimp only;rw[kC,aJ (by omega),ab,aU (by omega) (by omega),ab,xp s a,aa,hd,ab]
         rw[aI,e0];exact⟨_,rfl⟩
       | false =>
         have e0:bK (s,()) ((0,false,v,(i:Int),()),())=some (.inl ((0,false,vd .i64 (kb .i64 v 3)<|ka .i64<|cd .u8 (u8 s[i]) 48,((i+1:Nat):Int),()),())):=by
          unfold bK;dsimp only;rw[kC,aJ (by omega),ab,aU (by omega) (by omega),ab,xp s a,aa,hd,af,aA (by decide),af,aK (by omega)]
         rw[aI,e0];exact e (i+1) _ (by omega) (by omega)
      .rw[aI];unfold bK;dsimp only;rw[kC,aA (by omega),af];exact⟨_,rfl⟩
   obtain⟨q,f⟩:=key s.length 0 0 (by omega) (by omega);rw[show Loop (bK (s,())) ((0,false,0,0,()),())=some q from f,aa];cases du q.1 0 with
   | true=>exact⟨_,_,rfl⟩
   | false=>exact⟨_,_,rfl⟩
theorem od(p:UInt8->Bool)(s:ao):(cj p s).length<=s.length:=by
 unfold cj;rw[MQ];have:=Lg (p:=p) (l:=s.reverse);have:=congrArg List.length this;rw[gI,MQ] at this;omega
theorem eE(s:ao)(a:s.length<=1048576):∃n,cN (s,())=some (n,()):=by
 unfold cN;dsimp only;have d:=od vh s;rw[DY s a,aa];obtain⟨n,c,h⟩:=HC (cj vh s) (by omega);dsimp only;rw[h,aa];cases (aj (nt<|nt c) (aZ (len<|cj vh s)<|len s) true) with
 | true=>exact⟨_,rfl⟩
 | false=>exact⟨_,rfl⟩
def fW(b:ao)(a n:Nat):ao:=(b.drop a).take n
theorem b6(b:ao)(a n:Nat):(fW b a n).length<=n:=by simp[fW];omega
theorem ny(b:ao)(d:b.length=512)(k:Int)(a n:Nat)(c:idx Wc k=some ((a:Int),(n:Int),()))(h:a+n<=512):bU (b,k,())=some (fW b a n,()):=by
 unfold bU;rw[UN,aa];dsimp only;rw[c,aa];dsimp only;rw[show aB .i64 (a:Int) (n:Int)=((a+n:Nat):Int) from uO (by omega),aP (by omega) (by omega) (by simp only[len];omega),ab];unfold sub minus fW;rw[sQ,show(((a+n:Nat):Int)-(a:Int)).toNat=n by omega]
section
variable (b:ao)
theorem o0(a:b.length=512):bU (b,0,())=some (fW b 0 100,()):=ny b a 0 0 100 rfl (by omega)
theorem o1(a:b.length=512):bU (b,1,())=some (fW b 100 8,()):=ny b a 1 100 8 rfl (by omega)
theorem o2(a:b.length=512):bU (b,2,())=some (fW b 108 8,()):=ny b a 2 108 8 rfl (by omega)
theorem o3(a:b.length=512):bU (b,3,())=some (fW b 116 8,()):=ny b a 3 116 8 rfl (by omega)
theorem o4(a:b.length=512):bU (b,4,())=some (fW b 124 12,()):=ny b a 4 124 12 rfl (by omega)
theorem o5(a:b.length=512):bU (b,5,())=some (fW b 136 12,()):=ny b a 5 136 12 rfl (by omega)
theorem o6(a:b.length=512):bU (b,6,())=some (fW b 148 8,()):=ny b a 6 148 8 rfl (by omega)
theorem o7(a:b.length=512):bU (b,7,())=some (fW b 156 1,()):=ny b a 7 156 1 rfl (by omega)
theorem o8(a:b.length=512):bU (b,8,())=some (fW b 157 100,()):=ny b a 8 157 100 rfl (by omega)
theorem o9(a:b.length=512):bU (b,9,())=some (fW b 257 8,()):=ny b a 9 257 8 rfl (by omega)
theorem o10(a:b.length=512):bU (b,10,())=some (fW b 345 155,()):=ny b a 10 345 155 rfl (by omega)
end
def XZ:Hd:=([],0,0,0,0,0,0,[],())
theorem Cw(b:ao)(a:b.length=512)(c:fW b 257 8≠mz):eU (b,())=some (XZ,2,()):=by
 unfold eU;dsimp only;rw[aT<|by simp only[len];omega,aE,az,ab,o9 b a,aa,aa,show([117,115,116,97,114,0,48,48]:ao)=mz from rfl];dsimp only;rw[show bw (fW b 257 8) mz=false from cU c,az,aE,af,aa,ab];rfl
theorem Sc(b:ao)(a:b.length=512){n:Int}(e:cN (fW b 148 8,())=some (n,()))(c:n≠(pM b 512:Int)):eU (b,())=some (XZ,2,()):=by
 by_cases d:fW b 257 8=mz
 .unfold eU;dsimp only;rw[aT<|by simp only[len];omega,aE,az,ab,o9 b a,aa,aa,show([117,115,116,97,114,0,48,48]:ao)=mz from rfl];dsimp only;rw[d,show bw mz mz=true from jo _,aE,az,ab,o6 b a,aa];dsimp only;rw[e,aa,Fz b (by omega),aa];dsimp only;rw[a,aN c,az,aa,ab];rfl
 .exact Cw b a d
section
variable {h:Hd} {m u g z t:Nat} {kd:UInt8}
theorem acu(n:Nat):∀x∈nx n,x=0:=λx a=>List.eq_of_mem_replicate a
end
def hA:Hd:=([100,47],2,493,0,0,0,1,[],())
def hC:Hd:=([100],2,0,0,0,1,0,[],())
abbrev Pt:=Hd×ao×ah
def adq(h:Hd):Int:=h.2.2.2.2.2.1
def ah8(h:Hd):UInt8:=if h.2.1=1 then 48 else if h.2.1=2 then 53 else 50
def ah9(h:Hd):ao:=ah7 h h.2.2.1.toNat h.2.2.2.1.toNat h.2.2.2.2.1.toNat h.2.2.2.2.2.1.toNat h.2.2.2.2.2.2.1.toNat (ah8 h)
def aia(p:Pt):Prop:=HB p.1 100/\adq p.1=(p.2.1.length:Int)
instance (p:Pt):Decidable (aia p):=inferInstanceAs (Decidable<|_/\_)
def mA(n:Nat):Nat:=(512-n % 512) % 512
def body(p:Pt):ao:=ah9 p.1++p.2.1++nx (mA p.2.1.length)
theorem Sd(n:Nat):mA n<512:=wM _ (by decide)
theorem Se(n:Nat)(c:n<=1048576):uG ((n:Int),())=some ((mA n:Int),()):=by
 unfold uG;dsimp only;rw[show aZ 512 0=false from rfl,af,af];have a:iR (n:Int) 512=((n % 512:Nat):Int):=rfl;rw[a,dx (by omega) (by omega),show(512:Int)-((n % 512:Nat):Int)=((512-n % 512:Nat):Int) by omega];rfl
theorem Sf(n:Nat)(d:n<=1048576):l4 ((n:Int),())=some (((n+mA n:Nat):Int),()):=by
 unfold l4;dsimp only;have key:=cP (f:=ko) (r:=((((n+mA n:Nat):Int),()),())) (mA n) (λi=>((((n+i:Nat):Int),()),())) (λi a=>by
  have c:=a;unfold mA at c;unfold ko;dsimp only;rw[show aZ 512 0=false from rfl,af,show iR ((n+i:Nat):Int) 512=(((n+i) % 512:Nat):Int) from rfl,aN (by omega),az,ab,aK (by omega)];rfl) (by
  unfold ko;dsimp only;rw[show aZ 512 0=false from rfl,af,show iR ((n+mA n:Nat):Int) 512=(((n+mA n) % 512:Nat):Int) from rfl,aT (by unfold mA;omega),aE,af];rfl)
 rw[show Loop ko (((n:Int),()),())=_ from key,aa]
structure akW (l:List Pt) (n:Nat):Prop where
 many:l.length<=n
 path:∀p∈l,p.1.1.length<=300
 link:∀p∈l,p.1.2.2.2.2.2.2.2.1.length<=300
 data:∀p∈l,p.2.1.length<=8192
abbrev Rd:=Bool×ao×Int×Bool×Bool×ah
def PJ:Pt:=(XZ,[],())
def rd(r:ao)(n:Int):Rd:=(true,r,n,false,false,())
def zV(n:Int)(b:Bool):Rd:=(true,[],n,true,b,())
theorem X0(r:ao)(n:Int)(b:Bool):bI ((),(true,r,n,true,b,()),())=some ((PJ,false,()),(true,r,n,true,b,()),()):=by
 unfold bI;dsimp only;rfl
theorem D9(r:ao)(n:Int)(b:Bool):eg ((b,()),rd r n,())=some ((PJ,false,()),zV n b,()):=rfl
theorem J9(r:ao)(n:Int)(h:r.length<512):bI ((),rd r n,())=some ((PJ,false,()),zV n true,()):=by
 have e:=D9 r n true;unfold bI;dsimp only[rd] at e⊢;rw[aE,az,ab,af,aJ (by rw[br];omega),ab,e,aa]
theorem FA(r:ao)(n:Int)(h:512<=r.length)(f:r.length<=1048576)(i:∀x∈r.take 512,x=0) :
  bI ((),rd r n,())=some ((PJ,false,()),zV n<|!decide (1024<=r.length/\r.length % 512=0/\∀x∈r,x=0),()):=by
 have e:=λb=>D9 r n b;unfold bI;dsimp only[rd] at e⊢;have j:(r.take 512).length=512:=by rw[fT];omega
 rw[aE,az,ab,af,aA (by rw[br];omega),af,aP (by decide) (by decide) (by rw[br];omega),ab,show sub r 0 (minus 512 0)=r.take 512 from iC r 512,JZ _ (by omega),eu ⟨j,i⟩,aa,ab];rw[show aZ 512 0=false from rfl,af,show iR (len r) 512=((r.length % 512:Nat):Int) from rfl,show da 1024 (len r)=decide (1024<=r.length) from by unfold da len;apply jV.2;omega,show aZ ((r.length % 512:Nat):Int) 0=decide (r.length % 512=0) from by unfold aZ;apply jV.2;omega,R1 r f];have k:decide ((cj b8 r).dropWhile b8=[])=decide (∀x∈r,x=0):=jV.2 (uR r);by_cases a:1024<=r.length
 .by_cases b:r.length % 512=0
  .by_cases c:∀x∈r,x=0
   .have d:=(uR r).2 c;rw[eu a,ab,eu b,aa,aE,az,ab,aa,aa];dsimp only;rw[cv d,aE,e,aa,eu ⟨a,b,c⟩];rfl
   .have d:¬(cj b8 r).dropWhile b8=[]:=λq=>c ((uR r).1 q);rw[eu a,ab,eu b,aa,aE,az,ab,aa,aa];dsimp only;rw[bq d,az,e,aa,cU λq=>c q.2.2];rfl
  .rw[eu a,ab,cU b,aa,az,aE,af,aa,e,aa,cU λq=>b q.2.1];rfl
 .rw[cU a,af,aa,az,aE,af,aa,e,aa,cU λq=>a q.1];rfl
theorem NO(p:Pt)(a:List Pt)(e:Rd)(i:a.length<=1000){f:Pt}{c:Bool}{d:Rd}(h:bI ((),e,())=some ((f,c,()),d,())) :
  gY (((),(),true,()),p,a,e,())=some (.inl (((),(),c,()),f,a++[p],d,())):=by
 unfold gY;dsimp only;rw[ab,bP (by simp only[dh,eG];omega),ab,h,aa];rfl
theorem ub(p:Pt)(a:List Pt)(c:Rd):gY (((),(),false,()),p,a,c,())=some (.inr (((),(),false,()),p,a,c,())):=rfl
theorem NP(s:ao)(h:8192<s.length):e9 (s,())=some ([],10,()):=by
 unfold e9;dsimp only;rw[aJ<|by rw[br];omega,X0,aa];dsimp only;rw[aI,ub];rfl
theorem aem(c:Bool)(h:Hd):∃x e,ae (aj c (ae (pF (h,(256:Int),())) λ(a:Bool×ah)=>some (nt a.1))<|some true) (λy=>aj y (some (XZ,(2:Int),())) (some (h,(0:Int),())))=some (x,e,())/\(e=0->HB x 256):=by
 rw[R2,aa];cases c with
 | false=>exact⟨_,_,rfl,λq=>absurd q (by decide)⟩
 | true =>
   by_cases d:HB h 256
   .rw[eu d];exact⟨h,0,rfl,λ_=>d⟩
   .rw[cU d];exact⟨_,_,rfl,λq=>absurd q (by decide)⟩
theorem Wd(b:ao)(a:b.length=512):∃x e,eU (b,())=some (x,e,())/\(e=0->HB x 256):=by
 by_cases d:fW b 257 8=mz
 case neg=>exact⟨_,_,Cw b a d,λe=>absurd e (by decide)⟩
 obtain⟨j,f⟩:=eE (fW b 148 8) (by have:=b6 b 148 8;omega);by_cases i:j=(pM b 512:Int)
 case neg=>exact⟨_,_,Sc b a f i,λe=>absurd e (by decide)⟩
 obtain⟨w,k⟩:=eE (fW b 100 8) (by have:=b6 b 100 8;omega);obtain⟨y,l⟩:=eE (fW b 108 8) (by have:=b6 b 108 8;omega);obtain⟨A,n⟩:=eE (fW b 116 8) (by have:=b6 b 116 8;omega);obtain⟨B,o⟩:=eE (fW b 124 12) (by have:=b6 b 124 12;omega);obtain⟨C,q⟩:=eE (fW b 136 12) (by have:=b6 b 136 12;omega);have r:=D0 (fW b 0 100) (by have:=b6 b 0 100;omega);have s:=D0 (fW b 157 100) (by have:=b6 b 157 100;omega);have t10:=D0 (fW b 345 155) (by have:=b6 b 345 155;omega);have D:=od b8 (fW b 0 100);have l10:=od b8 (fW b 345 155);have m0:=b6 b 0 100;have m10:=b6 b 345 155;unfold eU;dsimp only;rw[aT<|by simp only[len];omega,aE,az,ab,o9 b a,aa,aa,show([117,115,116,97,114,0,48,48]:ao)=mz from rfl];dsimp only;rw[d,show bw mz mz=true from jo _,aE,az,ab,o6 b a,aa];dsimp only;rw[f,aa,Fz b (by omega),aa];dsimp only;rw[a,aT i,aE,aa,af,o0 b a,aa];dsimp only;rw[r,aa,o8 b a,aa];dsimp only;rw[s,aa,o10 b a,aa];dsimp only;rw[t10,aa];dsimp only;have c:∃p:ao,(aj (nt<|bw (cj b8<|fW b 345 155) []) (aj (fits<|plus (len<|cj b8<|fW b 345 155)<|len ([47]:ao)) (aj (fits<|plus (len<|app (cj b8<|fW b 345 155) [47])<|len<|cj b8<|fW b 0 100)
   (some ((app (app (cj b8<|fW b 345 155) [47])<|cj b8<|fW b 0 100,()),())) none) none)<|some ((cj b8<|fW b 0 100,()),()))=some ((p,()),()):=by
  cases (nt<|bw (cj b8<|fW b 345 155) []) with
  | true =>
    rw[ab,de (by simp only[plus,len,dh,eG];omega),ab,de (by simp only[plus,len,app,gI,dh,eG];omega),ab];exact⟨_,rfl⟩
  | false=>exact⟨_,rfl⟩
 obtain⟨p,v⟩:=c;rw[v,aa,o1 b a,aa];dsimp only;rw[k,aa,o2 b a,aa];dsimp only;rw[l,aa,o3 b a,aa];dsimp only;rw[n,aa,o4 b a,aa];dsimp only;rw[o,aa,o5 b a,aa];dsimp only;rw[q,aa,o7 b a,aa];exact aem _ _
theorem Sg(r:ao)(n:Nat)(C:r.length<=10000):∃p d f,bI ((),rd r (n:Int),())=some ((p,d,()),f,()) /\
  ((d=false/\∃b,f=zV (n:Int) b)\/(d=true/\HB p.1 256/\p.2.1.length<=r.length/\n<64/\∃j,f=rd j ((n+1:Nat):Int)/\j.length+512<=r.length)):=by
 by_cases a:r.length<512
 .exact⟨_,_,_,J9 r n a,.inl ⟨rfl,_,rfl⟩⟩
 by_cases l:∀x∈r.take 512,x=0
 .exact⟨_,_,_,FA r n (by omega) (by omega) l,.inl ⟨rfl,_,rfl⟩⟩
 have e:=λb=>D9 r (n:Int) b;have o:(r.take 512).length=512:=by rw[fT];omega
 obtain⟨x,s,v,w⟩:=Wd (r.take 512) o;have y:(r.drop 512).length=r.length-512:=j8;unfold bI;dsimp only[rd] at e⊢;rw[aE,az,ab,af,aA (by rw[br];omega),af,aP (by decide) (by decide) (by rw[br];omega),ab,show sub r 0 (minus 512 0)=r.take 512 from iC r 512];rw[JZ (r.take 512)<|by omega,aa];dsimp only;rw[cU<|λq=>l q.2,af,ab,v,aa,aP (by decide) (by rw[br];omega) (qJ _),ab,show sub r 512 (minus (len r) 512)=r.drop 512 from oN r 512 (by omega)];dsimp only;by_cases i:s=0
 case neg =>
  rw[aN i,az,ab,e,aa];exact⟨_,_,_,rfl,.inl ⟨rfl,_,rfl⟩⟩
 rw[aT i,aE,af];have c:=w i;obtain⟨A,D⟩:=c.2.2.2.1;obtain⟨k,B⟩:=ade A;rw[B];by_cases E:(r.drop 512).length<k
 .rw[aJ<|by rw[br];omega,ab,e,aa];exact⟨_,_,_,rfl,.inl ⟨rfl,_,rfl⟩⟩
 .have F:=Sd k;rw[aA<|by rw[br];omega,af,Se k (by omega),aa,fk (by omega) (by omega)];dsimp only;by_cases G:(r.drop 512).length<k+mA k
  .rw[aJ<|by rw[br];omega,ab,e,aa];exact⟨_,_,_,rfl,.inl ⟨rfl,_,rfl⟩⟩
  .rw[aA<|by rw[br];omega,af];by_cases H:64<=n
   .rw[dc<|by omega,ab,e,aa];exact⟨_,_,_,rfl,.inl ⟨rfl,_,rfl⟩⟩
   .rw[fu<|by omega,af,aa,fk (by omega) (by omega),aP (by omega) (by rw[br];omega) (qJ _),ab,aP (by omega) (by omega) (by rw[br];omega),ab];rw[show sub (r.drop 512) 0 (minus (k:Int) 0)=(r.drop 512).take k from iC _ k,show(k:Int)+(mA k:Int)=((k+mA k:Nat):Int) by omega,oN _ (k+mA k) (by omega),aK (by omega)];refine⟨_,_,_,rfl,.inr ⟨rfl,c,?_,by omega,_,rfl,?_⟩⟩
    .dsimp only;rw[fT];omega
    .rw[j8];omega
theorem Ka{h:Hd}(k:HB h 256):h.1.length<=300/\h.2.2.2.2.2.2.2.1.length<=300:=by
 obtain⟨_,_,_,_,_,⟨_,c,_⟩,a⟩:=k;refine⟨by omega,?_⟩;rcases a with ⟨_,e⟩|⟨_,e,_⟩|⟨_,⟨_,e,_⟩,_⟩
 .rw[e];simp
 .rw[e];simp
 .omega
def RdP(p:Pt):Prop:=p.1.1.length<=300/\p.1.2.2.2.2.2.2.2.1.length<=300/\p.2.1.length<=8192
theorem X1:∀(m n:Nat) (r:ao) (out:List Pt) (p:Pt),r.length<=m->r.length<=8192->out.length+1=n->n<=64->(∀q∈out++[p],RdP q) ->
  ∃(c:List Pt) (e:Pt) (b:Int×Bool),Loop gY (((),(),true,()),p,out,rd r (n:Int),())=some (((),(),false,()),e,c,zV b.1 b.2,())/\c.length<=64/\∀q∈c,RdP q:=by
 intro m;induction m using Nat.strongRecOn with
 | _ m l =>
   intro n r out p E F G s f;obtain⟨i,v,w,x,y⟩:=Sg r n (by omega);have d:=NO p out (rd r (n:Int)) (by omega) x;rcases y with ⟨rfl,b,rfl⟩|⟨rfl,A,H,I,j,rfl,J⟩
   .refine⟨out++[p],i,((n:Int),b),?_,by rw[gI];simp;omega,f⟩;rw[aI,d];show Loop _ _=_
    rw[aI,ub];rfl
   .have k:=Ka A;obtain⟨o,e,b,B,C,D⟩:=l j.length (by omega) (n+1) j (out++[p]) i (bZ _) (by omega) (by rw[gI];simp;omega) (by omega) (λq a=>by
     rcases ra.1 a with a|a
     .exact f q a
     .rw[EF] at a;subst a;exact⟨k.1,k.2,by omega⟩)
    exact⟨o,e,b,by rw[aI,d];exact B,C,D⟩
theorem aaO(s:ao):∃l e,e9 (s,())=some (l,e,())/\l.length<=64/\(∀q∈l,RdP q)/\(e=0\/(e=10/\l=[])):=by
 by_cases i:8192<s.length
 .exact⟨_,_,NP s i,by simp,λq a=>(by cases a),.inr ⟨rfl,rfl⟩⟩
 obtain⟨p,y,A,j,k⟩:=Sg s 0 (by omega);have fin:∀(b:Int×Bool) (o:List Pt),(ae (hW ((),zV b.1 b.2,())) λc=>aj c.1.1 (some (([]:List Pt),(10:Int),())) (some (o,(0:Int),())))=some (if b.2=true then(([]:List Pt),(10:Int),()) else(o,(0:Int),())):=λb o=>by
  obtain⟨B,n⟩:=b;cases n<;>rfl
 unfold e9;dsimp only;rw[aA<|by rw[br];omega,show bI ((),(true,s,(0:Int),false,false,()),())=_ from j,aa];dsimp only;rcases k with ⟨rfl,b,rfl⟩|⟨rfl,r,C,D,d,rfl,E⟩
 .rw[aI,ub];show ∃l e,(ae (hW ((),zV _ _,())) λc=>aj c.1.1 (some (([]:List Pt),(10:Int),())) (some (([]:List Pt),(0:Int),())))=_/\_
  rw[fin (_,_)];cases b with
  | true=>exact⟨_,_,rfl,by simp,λq a=>(by cases a),.inr ⟨rfl,rfl⟩⟩
  | false=>exact⟨_,_,rfl,by simp,λq a=>(by cases a),.inl rfl⟩
 .have f:=Ka r;obtain⟨o,F,b,v,w,x⟩:=X1 d.length 1 d [] p (bZ _) (by omega) rfl (by omega) (λq a=>by
   rw[sd,EF] at a;subst a;exact⟨f.1,f.2,by omega⟩)
  rw[show Loop gY (((),(),true,()),p,([]:List Pt),rd d ((0+1:Nat):Int),())=_ from v,aa];dsimp only;rw[fin b o];cases G:b.2 with
  | true=>exact⟨_,_,rfl,by simp,λq a=>(by cases a),.inr ⟨rfl,rfl⟩⟩
  | false=>exact⟨_,_,rfl,w,x,.inl rfl⟩
set_option maxRecDepth 100000
end Go.Ge
namespace Go.Ge
variable [Lp]
abbrev Nd:=ao×Int×Int×ao×ao×ah
theorem Ic{a b:Int}:(da a b=true)↔a<=b:=by
 constructor
 .intro h;rcases Int.lt_or_le b a with g|g
  .rw[fu g] at h;cases h
  .exact g
 .exact dc
theorem tS{a b:Int}:da a b=decide (a<=b):=by
 rw[EH,Ic,nE]
theorem UO{p:ao}(w:p≠[]):((kD p).2=0/\(kD p).1=p)↔((parts p).all qz=true/\(parts p).length<=8/\p.length<=96):=by
 constructor
 .rintro⟨a,d⟩;obtain⟨f,l⟩:=XM a;obtain⟨n,o,j⟩:=pL f;have e:aF (names p)=p:=by rw[<-l,d]
  have q:parts p=names p:=by
   have:=Gt p;rw[e] at this;exact this
  rw[q];refine⟨n,o,?_⟩;rw[e] at j;exact j
 .rintro⟨a,d,f⟩;have r:∀x∈parts p,my x=true:=λx c=>by
   have:=sb.1 a x c;unfold qz at this;have:=kH this;unfold my;refine eu ⟨λe=>?_,this.1⟩;subst e;exact absurd this.2.2.1 (by decide)
  have k:names p=parts p:=Im.2 r;have i:aF (names p)=p:=by rw[k,fy]
  have s:p.head?≠some 47:=by
   rw[<-i];exact UH λx c=>⟨(ua p x c).1,(ua p x c).2.1⟩
  have v:lp p=true:=by
   unfold lp;rw[i,k];simp[a,d,f,s]
  unfold kD;rw[aV v];exact⟨rfl,i⟩
def uT(p:ao):Bool:=decide (p≠[])&&(parts p).all qz&&decide ((parts p).length<=8)&&decide (p.length<=92)&&decide ((bc p).2.length<=28)&&decide ((kO (bc p).2).1=0)
theorem UP(p:ao)(j:p.length<=4096):rN (p,())=some (uT p,()):=by
 unfold rN;dsimp only;rw[NJ p j,aa,pt p (by omega),aa];dsimp only;rw[R6,aa];dsimp only;rw[j6,j6,j6,j6,j6]
 congr 2
 rw[EH];unfold uT;by_cases a:p=[]
 .subst a;simp[bw,nt]
 .have i:=UO a;simp only[dv,nE,aZ,bw,V4,Ic,len,j7,GK];constructor
  .rintro⟨⟨⟨⟨c,d⟩,o⟩,q,r⟩,k⟩;obtain⟨e,f,l⟩:=i.1 ⟨c,d⟩;exact⟨⟨⟨⟨⟨a,e⟩,f⟩,by omega⟩,by omega⟩,k⟩
  .rintro⟨⟨⟨⟨⟨_,e⟩,f⟩,l⟩,s⟩,n⟩;obtain⟨c,d⟩:=i.2 ⟨e,f,by omega⟩;exact⟨⟨⟨⟨c,d⟩,a⟩,by omega,by omega⟩,n⟩
def NQ(n:Nd):Bool:=if n.2.1=1 then decide (n.2.2.2.2.1=[]/\n.2.2.2.1.length<=8192) else if n.2.1=2 then decide (n.2.2.2.2.1=[]/\n.2.2.2.1=[]) else if n.2.1=3 then decide (n.2.2.2.1=[]/\n.2.2.2.2.1≠[]/\n.2.2.2.2.1.length<=100/\0∉n.2.2.2.2.1) else false
def eS(n:Nd):Bool:=uT n.1&&decide (0<=n.2.2.1)&&decide (n.2.2.1<=4095)&&NQ n
theorem L4(s:ao)(c:UInt8):bT (s,u8 c,())=some (Lib.indexByte s c,()):=by
 have:(show Int from u8 c).toNat.toUInt8=c:=by simp[u8]
 unfold bT cE;dsimp only;rw[this];rfl
theorem We(n:Nd)(j:n.1.length<=4096):xg (n,())=some (eS n,()):=by
 obtain⟨p,k,m,d,l,u⟩:=n;unfold xg eS NQ;dsimp only;rw[UP p j,aa];dsimp only;have o:ba m 0=!decide (0<=m):=by unfold ba;by_cases h:m<0<;>simp[h]<;>omega
 have q:ba 4095 m=!decide (m<=4095):=by unfold ba;by_cases h:4095<m<;>simp[h]<;>omega
 rw[o,q];cases uT p with
 | false=>rfl
 | true =>
   cases decide (0<=m) with
   | false=>rfl
   | true =>
     cases decide (m<=4095) with
     | false=>rfl
     | true =>
       simp only[aE,az,ab,af,Qv,Qw];by_cases a:k=1
       .subst a;simp only[aZ,CN,ab,kQ,bw,tS,len,j6]
        congr 2
        rw[EH];simp;intro _;omega
       .rw[show aZ k 1=false by simp[aZ,a],af,aX a];by_cases c:k=2
        .subst c;simp only[aZ,CN,ab,kQ,bw,tS,len,j6]
         congr 2
         rw[EH];simp
        .rw[show aZ k 2=false by simp[aZ,c],af,aX c];by_cases e:k=3
         .subst e;rw[show aZ 3 3=true by rfl,ab,aV rfl,j6,j6,show((l,(0:Int),()):ao×Int×ah)=(l,u8 0,()) by rfl,L4,aa];dsimp only;have r:ba (Lib.indexByte l 0) 0=decide (0∉l):=BD l;rw[r];by_cases hd:d=[]
          .by_cases f:l=[]
           .subst hd f;rfl
           .by_cases i:l.length<=100
            .simp[bw,hd,f,tS,len,nt,aj,ae,i,show(l.length:Int)<=100 by omega]
            .simp[bw,hd,f,tS,len,nt,aj,ae,i,show ¬(l.length:Int)<=100 by omega]
          .simp[bw,hd,aj,ae]
         .rw[show aZ k 3=false by simp[aZ,e],af,aX e]
theorem UQ(s:ao)(q:s.length<=1048576):qh (s,())=some (decide<|s≠[]/\s.length<=100/\0∉s,()):=by
 unfold qh;rcases pT (f:=mu (s,())) s (λi=>((false,i,()),())) (λ_ x=>decide (x=0)) (λi x=>(1,(false,(i:Int),()),())) ((0:Nat),(false,(s.length:Int),()),()) (by omega) (λi x d j k=>by
  unfold mu;dsimp only;rw[aq j,ab,ar d,aa,afC,sX,k];by_cases l:x=0<;>simp[l]) (by unfold mu;dsimp only;rw[aC,af]) with ⟨i,x,d,n,_,h⟩|⟨o,h⟩
 .rw[h,aa,eC,af];have:x=0:=kH n;subst this;have a:(0:UInt8)∈s:=bR.2 ⟨i,d⟩;rw[cU<|by rintro⟨_,_,h⟩;exact h a]
 .rw[h,aa,bV,ab,j6];have a:(0:UInt8)∉s:=λa=>by
   obtain⟨i,j⟩:=bR.1 a;have:=o i 0 j;exact absurd this (by decide)
  congr 2
  rw[EH];simp only[dv,Ic,len,nE];constructor
  .rintro⟨c,p⟩;exact⟨λe=>by rw[e] at c;simp at c,by omega,a⟩
  .rintro⟨c,p,_⟩;exact⟨by have:=Iq.2 c;omega,by omega⟩
theorem vJ(n:Nd)(v:n.1.length<=4096)(w:n.2.2.2.2.1.length<=4096):kL (n,())=some (eS n,()):=by
 obtain⟨p,k,m,d,l,u⟩:=n;unfold kL eS NQ;dsimp only at v w⊢;rw[tR p v,aa];dsimp only;rw[Gw,aa,NI p (by omega),UQ l (by omega)];simp only[aa,j6];have e0:(aj (nt<|bw p []) (some<|(parts p).all qz&&decide ((parts p).length<=8)&&decide (p.length<=96)) (some false):Option Bool)=some (decide (p≠[])&&(parts p).all qz&&decide ((parts p).length<=8)&&decide (p.length<=96)):=by
  by_cases h:p=[]
  .subst h;rfl
  .simp[bw,h,aj,nt]
 rw[e0,aa];have x:((((((decide (p≠[])&&(parts p).all qz&&decide ((parts p).length<=8)&&decide (p.length<=96))&&da (len p) 92)&&da (len (bc p).2) 28)&&aZ (kO (bc p).2).1 0)&&da 0 m)&&da m 4095)=(uT p&&decide (0<=m)&&decide (m<=4095)):=by
  rw[EH];unfold uT;simp only[dv,Ic,len,aZ,nE];constructor
  .rintro⟨⟨⟨⟨⟨⟨⟨⟨a,e⟩,f⟩,B⟩,y⟩,A⟩,i⟩,j⟩,o⟩;exact⟨⟨⟨⟨⟨⟨⟨a,e⟩,f⟩,by omega⟩,by omega⟩,i⟩,j⟩,o⟩
  .rintro⟨⟨⟨⟨⟨⟨⟨a,e⟩,f⟩,y⟩,A⟩,i⟩,j⟩,o⟩;exact⟨⟨⟨⟨⟨⟨⟨⟨a,e⟩,f⟩,by omega⟩,by omega⟩,by omega⟩,i⟩,j⟩,o⟩
 simp only[x];generalize (uT p&&decide (0<=m)&&decide (m<=4095))=c;by_cases q:k=1
 .subst q;rw[show aZ 1 1=true by rfl,ab,aV rfl]
  congr 2
  rw[Bool.and_assoc]
  congr 1
  rw[EH];simp[bw,tS,len];intro _;omega
 .rw[show aZ k 1=false by simp[aZ,q],af,aX q];by_cases r:k=2
  .subst r;rw[show aZ 2 2=true by rfl,ab,aV rfl]
   congr 2
   rw[Bool.and_assoc]
   congr 1
   rw[EH];simp[bw]
  .rw[show aZ k 2=false by simp[aZ,r],af,aX r];by_cases s:k=3
   .subst s;rw[show aZ 3 3=true by rfl,ab,aV rfl];cases c with
    | false=>rfl
    | true =>
      by_cases hd:d=[]
      .simp[bw,hd,aj,ae]
      .simp[bw,hd,aj,ae]
   .rw[show aZ k 3=false by simp[aZ,s],af,aX s,Vw]
def Sm(n:Nd):Prop:=n.1.length<=200/\n.2.2.2.2.1.length<=300/\n.2.2.2.1.length<=8192
def yU(l:List Nd):Prop:=l.length<=4096/\∀x∈l,Sm x
def key(n:Nd):List ao:=parts n.1
def cmp(n:Nd)(p:ao):Int:=cmpL (parts n.1) (parts p)
theorem yU.at{l:List Nd}(h:yU l){i:Nat}{x:Nd}(a:l[i]?=some x):Sm x:=h.2 x (eF a)
theorem yU.take{l:List Nd}(h:yU l)(k:Nat):yU (l.take k):=⟨by rw[fT];have:=h.1;omega,λx a=>h.2 x (EE a)⟩
theorem Kb(n:Nd)(p:ao)(a:n.1.length<=4096)(c:p.length<=4096):lG (n,p,())=some (cmp n p,()):=by
 unfold lG;dsimp only;rw[Gu _ _ a c,aa];rfl
theorem acv{a b:Nat}(f:a<=1048576)(i:b<=1048576):ka .i64 (pd .u64 (ka .u64<|aB .i64 (a:Int) (b:Int)) 1)=(((a+b) / 2:Nat):Int):=by
 rw[fk (by omega)<|by omega,aca (by omega) (by omega)];have e:pd .u64 ((a:Int)+(b:Int)) 1=(((a+b) / 2:Nat):Int):=by
  unfold pd;rw[show(1:Int).toNat=1 from rfl];have c:((a:Int)+b).fdiv 2=((a:Int)+b) / 2:=ac1 _ (by omega);have d:(2:Int) ^ min 1 IntKind.u64.bits=2:=by decide
  simp[d,c]
 rw[e,xZ (by omega) (by omega)]
theorem X2(l:List Nd)(p:ao)(A:yU l)(E:p.length<=4096):∀(n lo hi:Nat),hi-lo<=n->lo<=hi->hi<=l.length ->
  ∃k:Nat,lo<=k/\k<=hi/\Loop (iZ (l,p,())) (((lo:Int),(hi:Int),()),())=some (((k:Int),(k:Int),()),()) /\
   ((∀(i j:Nat) (x y:Nd),i<=j->l[i]?=some x->l[j]?=some y->cmp y p<0->cmp x p<0)->(∀(j:Nat) (y:Nd),j<lo->l[j]?=some y->cmp y p<0)->(∀(j:Nat) (y:Nd),hi<=j->l[j]?=some y->¬cmp y p<0) ->
    (∀(j:Nat) (y:Nd),j<k->l[j]?=some y->cmp y p<0)/\(∀(j:Nat) (y:Nd),k<=j->l[j]?=some y->¬cmp y p<0)):=by
 intro n;induction n with
 | zero =>
   intro lo hi F G o;obtain rfl:hi=lo:=by omega
   refine⟨hi,bZ _,bZ _,?_,λ_ a b=>⟨a,b⟩⟩;rw[aI];unfold iZ;dsimp only;rw[aA<|qJ _,af];rfl
 | succ n q =>
   intro lo hi F G o;by_cases h:hi=lo
   .subst h;exact q hi hi (by omega) (bZ _) o
   .have I:=A.1;have H:(lo+hi) / 2<l.length:=by omega
    obtain⟨x,f⟩:∃x,l[(lo+hi) / 2]?=some x:=⟨_,gH H⟩;have e:iZ (l,p,()) (((lo:Int),(hi:Int),()),())=some (.inl<|if cmp x p<0 then(((((lo+hi) / 2+1:Nat):Int),(hi:Int),()),()) else(((lo:Int),(((lo+hi) / 2:Nat):Int),()),())):=by
     unfold iZ;dsimp only;rw[aJ<|by omega,ab,aA (by decide),af,acv (by omega) (by omega),ar f,aa,Kb x p (by have:=(A.at f).1;omega) E,aa];dsimp only;rw[aK<|by omega];by_cases d:cmp x p<0
     .rw[aJ d,aV d];rfl
     .rw[aA<|by omega,aX d];rfl
    rw[aI,e];by_cases d:cmp x p<0
    .obtain⟨k,B,C,r,s⟩:=q ((lo+hi) / 2+1) hi (by omega) (by omega) o;refine⟨k,by omega,C,by rw[aV d];exact r,λa b c=>s a (λj y D v=>?_) c⟩;exact a j ((lo+hi) / 2) y x (by omega) v f d
    .obtain⟨k,B,C,r,s⟩:=q lo ((lo+hi) / 2) (by omega) (by omega) (by omega);refine⟨k,B,by omega,by rw[aX d];exact r,λa b c=>s a b λj y D v w=>d (a _ _ x y D f v w)⟩
def Ord(l:List Nd):Prop:=∀(i j:Nat) (x y:Nd),i<j->l[i]?=some x->l[j]?=some y->cmpL (key x) (key y)<0
theorem Ord.mono{l:List Nd}(h:Ord l)(p:ao):∀(i j:Nat) (x y:Nd),i<=j->l[i]?=some x->l[j]?=some y->cmp y p<0->cmp x p<0:=by
 intro i j x y e c a d;rcases tr i j with g|g
 .exact rn (h i j x y g c a) d
 .obtain rfl:i=j:=by omega
  rw[c] at a;obtain rfl:=aG a;exact d
theorem Ord.take{l:List Nd}(h:Ord l)(k:Nat):Ord (l.take k):=λi j x y d a c=>by
 rw[fA] at a c;split at a
 .split at c
  .exact h i j x y d a c
  .cases c
 .cases a
structure Plc (l:List Nd) (p:ao) (k:Nat) (b:Bool):Prop where
 le:k<=l.length
 lo:∀(j:Nat) (y:Nd),j<k->l[j]?=some y->cmp y p<0
 hi:∀(j:Nat) (y:Nd),k<=j->l[j]?=some y->¬cmp y p<0
 is:b=true->∃x,l[k]?=some x/\x.1=p
 no:b=false->∀x∈l,x.1≠p
theorem Si{n:Nd}{p:ao}(h:cmp n p=0):n.1=p:=by
 have:=Xu h;rw[<-fy n.1,this,fy]
theorem Kc{n:Nd}{p:ao}(h:n.1=p):cmp n p=0:=by subst h;exact mc _
theorem A0(l:List Nd)(p:ao)(s:yU l)(v:p.length<=4096):∃(k:Nat) (b:Bool),dV (l,p,())=some ((k:Int),b,())/\k<=l.length/\(b=true->k<l.length)/\(Ord l->Plc l p k b):=by
 obtain⟨k,_,n,B,C⟩:=X2 l p s v l.length 0 l.length (by omega) (by omega) (bZ _);have f:Loop (iZ (l,p,())) ((0,len l,()),())=some (((k:Int),(k:Int),()),()):=B;have a:=λ(h:Ord l)=>C (h.mono p) (λj y c=>by omega) (λj y c i=>by have:=aD i;omega);by_cases q:k<l.length
 .obtain⟨x,d⟩:∃x,l[k]?=some x:=⟨_,gH q⟩;refine⟨k,decide (cmp x p=0),?_,n,λ_=>q,λh=>⟨n,(a h).1,(a h).2,λo=>⟨x,d,Si (kH o)⟩,λo y i e=>?_⟩⟩
  .unfold dV;dsimp only;rw[f,aa];dsimp only;rw[aq q,ab,ar d,aa,Kb x p (by have:=(s.at d).1;omega) v,aa];rfl
  .obtain⟨j,c⟩:=bR.1 i;have w:=Kc e;have r:=Ol o;rcases MT j k with g|g|g
   .have:=(a h).1 j y g c;omega
   .subst g;rw[d] at c;obtain rfl:=aG c;exact r w
   .have A:=h k j x y g d c;rw[show key y=parts p by unfold key;rw[e]] at A;exact(a h).2 k x (bZ _) d A
 .obtain rfl:k=l.length:=by omega
  refine⟨l.length,false,?_,n,λh=>(by cases h),λh=>⟨n,(a h).1,(a h).2,λh=>(by cases h),λo y i e=>?_⟩⟩
  .unfold dV;dsimp only;rw[f,aa];dsimp only;rw[aC,af]
  .obtain⟨j,c⟩:=bR.1 i;have w:=Kc e;have:=(a h).1 j y (aD c) c;omega
def Dir(l:List Nd)(d:ao)(e:Int):Prop:=(d=[]/\e=0)\/(d≠[]/\(((∀x∈l,x.1≠d)/\e=3)\/∃x∈l,x.1=d/\((x.2.1=2/\e=0)\/(x.2.1≠2/\e=12))))
theorem Wf(l:List Nd)(d:ao)(o:yU l)(p:d.length<=4096):∃e,nd (l,d,())=some (e,())/\(Ord l->Dir l d e):=by
 unfold nd;dsimp only;by_cases c:d=[]
 .subst c;exact⟨0,rfl,λ_=>.inl ⟨rfl,rfl⟩⟩
 .rw[bq c,af];obtain⟨k,b,q,v,r,i⟩:=A0 l d o p;rw[q,aa];dsimp only;cases b with
  | false =>
    rw[az,ab];exact⟨3,rfl,λh=>.inr ⟨c,.inl ⟨(i h).no rfl,rfl⟩⟩⟩
  | true =>
    have s:=r rfl;obtain⟨x,f⟩:∃x,l[k]?=some x:=⟨_,gH s⟩;rw[aE,af,ar f,aa];have j:Ord l->x.1=d:=λh=>by
     obtain⟨y,n,e⟩:=(i h).is rfl;rw[f] at n;rw[aG n,e]
    by_cases a:x.2.1=2
    .refine⟨0,?_,λh=>.inr ⟨c,.inr ⟨x,eF f,j h,.inl ⟨a,rfl⟩⟩⟩⟩;rw[aT a];rfl
    .refine⟨12,?_,λh=>.inr ⟨c,.inr ⟨x,eF f,j h,.inr ⟨a,rfl⟩⟩⟩⟩;rw[show aZ x.2.1 2=false by simp[aZ,a]];rfl
theorem zW(l:List Nd)(p:ao)(d:yU l):(∃(i:Nat) (x:Nd),l[i]?=some x/\x.1=p/\gP (l,p,())=some ((i:Int),()))\/((∀x∈l,x.1≠p)/\gP (l,p,())=some (-1,())):=by
 unfold gP;rcases pT (f:=oX (l,p,())) l (λi=>((0,i,()),())) (λ_ x=>decide (x.1=p)) (λi x=>(1,((i:Int),(i:Int),()),())) ((0:Nat),(0,(l.length:Int),()),()) (by have:=d.1;omega) (λi x a c j=>by
  unfold oX;dsimp only;rw[aq c,ab,ar a,aa,AP,j];by_cases h:x.1=p<;>simp[h,aj]) (by unfold oX;dsimp only;rw[aC,af]) with ⟨i,x,a,k,_,h⟩|⟨n,h⟩
 .left;refine⟨i,x,a,kH k,?_⟩;rw[h];rfl
 .right;refine⟨λx a e=>?_,by rw[h];rfl⟩;obtain⟨i,c⟩:=bR.1 a;have:=n i x c;simp[e] at this
theorem Kd(l:List Nd)(d:ao)(r:yU l):∃b,nf (l,d,())=some (b,())/\(b=true->d=[]\/∃x∈l,x.1=d/\x.2.1=2)/\(Ord l->b=false->d≠[]/\∀x∈l,x.1=d->x.2.1≠2):=by
 unfold nf;dsimp only;by_cases f:d=[]
 .subst f;rcases zW l [] r with ⟨i,x,a,c,h⟩|⟨_,h⟩<;>rw[h,aa]<;>exact⟨true,rfl,λ_=>.inl rfl,λ_ h=>by cases h⟩
 .rcases zW l d r with ⟨i,x,a,c,h⟩|⟨v,h⟩
  .rw[h,aa,bq f,az,ab];dsimp only;rw[dc<|by omega,ab,ar a,aa,aa,aa];refine⟨_,rfl,λo=>.inr ⟨x,eF a,c,kH o⟩,λs o=>⟨f,λy w p A=>?_⟩⟩;have q:=Ol o;obtain⟨j,n⟩:=bR.1 w;have k:key x=key y:=by unfold key;rw[c,p]
   rcases MT i j with g|g|g
   .have:=s i j x y g a n;rw[k,mc] at this;omega
   .subst g;rw[a] at n;obtain rfl:=aG n;exact q A
   .have:=s j i y x g n a;rw[k,mc] at this;omega
  .rw[h,aa,bq f,az,ab];exact⟨false,rfl,λh=>(by cases h),λ_ _=>⟨f,λx a e=>absurd e (v x a)⟩⟩
structure Valid (l:List Nd):Prop where
 few:l.length<=64
 ord:Ord l
 may:∀x∈l,eS x=true
 up:∀x∈l,(bc x.1).1=[]\/∃y∈l,y.1=(bc x.1).1/\y.2.1=2
theorem Ke(p:ao):(bc p).1.length<=p.length:=by
 rcases pK p with ⟨_,h⟩|⟨a,b,c,_,h⟩
 .rw[h];simp
 .rw[h,c];simp
theorem uU{p:ao}(h:(bc p).1≠[]):parts p=parts (bc p).1++[(bc p).2]:=by
 rcases pK p with ⟨_,e⟩|⟨a,b,c,d,e⟩
 .rw[e] at h;exact absurd rfl h
 .rw[e] at h⊢;have f:p≠[]:=by rw[c];simp
  unfold parts;rw[aX f,aX h,c];exact zR a b d
theorem Ord.uniq{l:List Nd}(h:Ord l){x y:Nd}(f:x∈l)(k:y∈l)(e:x.1=y.1):x=y:=by
 obtain⟨i,c⟩:=bR.1 f;obtain⟨j,a⟩:=bR.1 k;have d:key x=key y:=by unfold key;rw[e]
 rcases MT i j with g|g|g
 .have:=h i j x y g c a;rw[d,mc] at this;omega
 .subst g;rw[c] at a;exact aG a
 .have:=h j i y x g a c;rw[d,mc] at this;omega
theorem Kf{l:List Nd}(h:∀(k:Nat) (x y:Nd),l[k]?=some x->l[k+1]?=some y->cmpL (key x) (key y)<0):Ord l:=by
 have run:∀(d i:Nat) (x y:Nd),l[i]?=some x->l[i+1+d]?=some y->cmpL (key x) (key y)<0:=by
  intro d;induction d with
  | zero=>intro i x y c a;exact h i x y c a
  | succ d f =>
    intro i x y c a;have o:=aD a;obtain⟨z,e⟩:∃z,l[i+1+d]?=some z:=⟨_,gH (by omega)⟩;exact rn (f i x z c e) (h (i+1+d) z y e a)
 intro i j x y n c a;exact run (j-i-1) i x y c (by rw[show i+1+(j-i-1)=j by omega];exact a)
def BE(l:List Nd)(i:Nat)(x:Nd):Bool:=match i with
 | 0=>false
 | k+1=>match l[k]? with
   | some y=>decide (0<=cmpL (key y) (key x))
   | none=>false
theorem yb{l:List Nd}{k:Nat}{x y:Nd}(a:l[k]?=some y):BE l (k+1) x=decide (0<=cmpL (key y) (key x)):=by
 show(match l[k]? with|some y=>decide (0<=cmpL (key y) (key x))|none=>false)=_
 rw[a]
noncomputable def Sj(l:List Nd)(d:ao):Int:=match nd (l,d,()) with
 | some y=>y.1
 | none=>0
theorem Kg(l:List Nd)(d:ao)(c:yU l)(f:d.length<=4096):nd (l,d,())=some (Sj l d,())/\(Ord l->Dir l d (Sj l d)):=by
 obtain⟨e,a,i⟩:=Wf l d c f;have:Sj l d=e:=by unfold Sj;rw[a]
 rw[this];exact⟨a,i⟩
noncomputable def Gx(l:List Nd)(d:ao):Bool:=match nf (l,d,()) with
 | some y=>y.1
 | none=>false
theorem FB(l:List Nd)(d:ao)(c:yU l):nf (l,d,())=some (Gx l d,())/\(Gx l d=true->d=[]\/∃x∈l,x.1=d/\x.2.1=2)/\(Ord l->Gx l d=false->d≠[]/\∀x∈l,x.1=d->x.2.1≠2):=by
 obtain⟨e,a,f,i⟩:=Kd l d c;have:Gx l d=e:=by unfold Gx;rw[a]
 rw[this];exact⟨a,f,i⟩
theorem NR{l:List Nd}(h:∀(i:Nat) (x:Nd),l[i]?=some x->BE l i x=false):Ord l:=Kf λk x y a c=>by
 have:=h (k+1) y c;rw[yb a] at this;have:=Ol this;omega
theorem NS{l:List Nd}(h:Ord l){i:Nat}{x:Nd}(a:l[i]?=some x):BE l i x=false:=by
 cases i with
 | zero=>rfl
 | succ k =>
   have d:=aD a;obtain⟨y,c⟩:∃y,l[k]?=some y:=⟨_,gH (by omega)⟩;rw[yb c];have:=h k (k+1) y x (by omega) c a;exact cU (by omega)
theorem X3{l:List Nd}(h:Ord l){i:Nat}{x y:Nd}(c:l[i]?=some x)(f:y∈l)(k:(bc x.1).1≠[])(e:y.1=(bc x.1).1):y∈l.take i:=by
 obtain⟨j,a⟩:=bR.1 f;have n:cmpL (key y) (key x)=-1:=by
  unfold key;rw[e,uU k];exact RM _ _ (by simp)
 rcases tr j i with g|g
 .exact eF (i:=j) (by rw[fA,aV g];exact a)
 .exfalso;rcases tr i j with d|d
  .have:=rn (h i j x y d c a) (show cmpL (key y) (key x)<0 by omega);rw[mc] at this;omega
  .obtain rfl:i=j:=by omega
   rw[c] at a;obtain rfl:=aG a;rw[mc] at n;omega
theorem pv(l:List Nd)(j:yU l):∃e,fa (l,())=some (e,())/\(e=0↔Valid l):=by
 unfold fa;dsimp only;have B:ba 64 (len l)=decide (64<l.length):=by unfold ba len;apply jV.2;omega
 rw[B];by_cases H:64<l.length
 .rw[eu H,ab];exact⟨1,rfl,λh=>by omega,λh=>by have:=h.few;omega⟩
 .rw[cU H,af];have o:∀{i:Nat} {x:Nd},l[i]?=some x->(bc x.1).1.length<=4096:=λ{i x} hx=>by have:=(j.at hx).1;have:=Ke x.1;omega
  rcases pT (f:=oV (l,())) l (λi=>((0,i,()),())) (λi x=>!eS x||BE l i x||decide (Sj (l.take i) (bc x.1).1≠0)) (λi x=>(1,(1,(i:Int),()),())) ((0:Nat),(0,(l.length:Int),()),()) (by have:=j.1;omega) (λi x hx r K=>by
   unfold oV;dsimp only;rw[aq r,ab,ar hx,aa,pt _ (by have:=(j.at hx).1;omega),aa,We _ (by have:=(j.at hx).1;omega),aa];dsimp only;cases N:eS x with
   | false=>rfl
   | true =>
     rw[aE,af];have C:inside 0 (i:Int) (len l)=true:=nq (a:=0) (mK _) (by omega);have v:=(Kg (l.take i) (bc x.1).1 (j.take i)<|o hx).1;rw[C,ab,iC,v,aa,K];dsimp only;cases i with
     | zero =>
       rw[aA<|by simp,af];generalize Sj (l.take 0) (bc x.1).1=e;by_cases c:e=0
       .rw[aT c,aE,af];simp[BE,c]
       .rw[show aZ e 0=false by simp[aZ,c],az,ab];simp[BE,c]
     | succ k =>
       obtain⟨y,n⟩:∃y,l[k]?=some y:=⟨_,gH (by omega)⟩;rw[aJ<|by omega,ab,dx (by omega) (by omega),show(((k+1:Nat):Int)-1)=(k:Int) by omega,ar n,aa,Gu _ _ (by have:=(j.at n).1;omega) (by have:=(j.at hx).1;omega),aa];dsimp only;rw[tS];rw[yb n];unfold key;generalize Sj (l.take<|k+1) (bc x.1).1=e;by_cases I:0<=cmpL (parts y.1) (parts x.1)
       .rw[eu I,ab];simp
       .rw[cU I,af];by_cases c:e=0
        .rw[aT c,aE,af];simp[c]
        .rw[show aZ e 0=false by simp[aZ,c],az,ab];simp[c]) (by unfold oV;dsimp only;rw[aC,af]) with ⟨i,x,hx,A,_,h⟩|⟨L,h⟩
  .rw[h,aa,eC,af];refine⟨1,rfl,λh=>by omega,λs=>?_⟩;rw[s.may x<|eF hx,NS s.ord hx] at A;simp only[Qv,yA,nE] at A;have hd:=(Kg (l.take i) (bc x.1).1 (j.take i)<|o hx).2 (s.ord.take i);rcases hd with ⟨_,e⟩|⟨w,hd⟩
   .exact absurd e A
   .rcases s.up x (eF hx) with M|⟨y,n,d,p⟩
    .exact absurd M w
    .have D:=X3 s.ord hx n w d;rcases hd with ⟨E,_⟩|⟨z,c,F,⟨_,e⟩|⟨G,_⟩⟩
     .exact absurd d (E y D)
     .exact absurd e A
     .have:=s.ord.uniq (EE c) n (by rw[F,d]);subst this;exact absurd p G
  .rw[h,aa,bV,ab];have q:∀(i:Nat) (x:Nd),l[i]?=some x->eS x=true/\BE l i x=false/\Sj (l.take i) (bc x.1).1=0:=λi x hx=>by
    have:=L i x hx;simp only[vW,FV,GK,Decidable.not_not] at this;exact⟨this.1.1,this.1.2,by simpa using this.2⟩
   have J:Ord l:=NR λi x hx=>(q i x hx).2.1;refine⟨0,rfl,λ_=>⟨by omega,J,λx hx=>?_,λx hx=>?_⟩,λ_=>rfl⟩
   .obtain⟨i,r⟩:=bR.1 hx;exact(q i x r).1
   .obtain⟨i,r⟩:=bR.1 hx;have hd:=(Kg (l.take i) (bc x.1).1 (j.take i)<|o r).2 (J.take i);rw[(q i x r).2.2] at hd;rcases hd with ⟨e,_⟩|⟨_,⟨_,e⟩|⟨y,n,d,⟨p,_⟩|⟨_,e⟩⟩⟩
    .exact .inl e
    .omega
    .exact .inr ⟨y,EE n,d,p⟩
    .omega
theorem rr(l:List Nd)(c:yU l):∃b,la (l,())=some (b,())/\(b=true↔Valid l):=by
 unfold la;dsimp only;have o:ba 64 (len l)=decide (64<l.length):=by unfold ba len;apply jV.2;omega
 rw[o];by_cases s:64<l.length
 .rw[eu s,ab];exact⟨false,rfl,λh=>(by cases h),λh=>by have:=h.few;omega⟩
 .rw[cU s,af];rcases pT (f:=rO (l,())) l (λi=>((false,i,()),())) (λi x=>!eS x||!Gx l (bc x.1).1||BE l i x) (λi x=>(1,(false,(i:Int),()),())) ((0:Nat),(false,(l.length:Int),()),()) (by have:=c.1;omega) (λi x a e w=>by
   unfold rO;dsimp only;rw[aq e,ab,ar a,aa,tR _ (by have:=(c.at a).1;omega),aa,aa,vJ _ (by have:=(c.at a).1;omega) (by have:=(c.at a).2.1;omega),aa];dsimp only;cases E:eS x with
   | false=>rfl
   | true =>
     rw[aE,af,(FB l (bc x.1).1 c).1,aa];dsimp only;cases F:Gx l (bc x.1).1 with
     | false=>rfl
     | true =>
       rw[aE,af,w];cases i with
       | zero=>rw[aA<|by simp,af];simp[BE]
       | succ k =>
         obtain⟨y,j⟩:∃y,l[k]?=some y:=⟨_,gH (by omega)⟩;rw[aJ<|by omega,ab,dx (by omega) (by omega),show(((k+1:Nat):Int)-1)=(k:Int) by omega,ar j,aa,aa,zS _ _ (by have:=(c.at j).1;omega) (by have:=(c.at a).1;omega),aa];dsimp only;rw[tS];rw[yb j];unfold key;by_cases v:0<=cmpL (parts y.1) (parts x.1)
         .rw[eu v,ab];simp
         .rw[cU v,af];simp) (by unfold rO;dsimp only;rw[aC,af]) with ⟨i,x,a,p,_,h⟩|⟨A,h⟩
  .rw[h,aa,eC,af];refine⟨false,rfl,λh=>(by cases h),λn=>?_⟩;rw[n.may x<|eF a,NS n.ord a] at p;simp only[Qv,yA,Qx,j7] at p;obtain⟨B,C⟩:=(FB l (bc x.1).1 c).2.2 n.ord p;rcases n.up x (eF a) with D|⟨y,j,q,r⟩
   .exact absurd D B
   .exact absurd r (C y j q)
  .rw[h,aa,bV,ab];have d:∀(i:Nat) (x:Nd),l[i]?=some x->eS x=true/\Gx l (bc x.1).1=true/\BE l i x=false:=λi x a=>by
    have:=A i x a;simp only[vW,FV] at this;exact⟨this.1.1,this.1.2,this.2⟩
   refine⟨true,rfl,λ_=>⟨by omega,NR λi x a=>(d i x a).2.2,λx a=>?_,λx a=>?_⟩,λ_=>rfl⟩
   .obtain⟨i,e⟩:=bR.1 a;exact(d i x e).1
   .obtain⟨i,e⟩:=bR.1 a;exact(FB l (bc x.1).1 c).2.1 (d i x e).2.1
end Go.Ge
