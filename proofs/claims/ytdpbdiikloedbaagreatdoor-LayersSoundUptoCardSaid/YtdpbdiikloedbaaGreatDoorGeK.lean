/- A ghost interpreter of the model's code, and that it tells the truth: part 11. It says of a function of plain data what a call of it comes to. -/
import Derived.Test.YtdpbdiikloedbaaGreatDoorGeJ
import Derived.Deep.RegionLaw
import Derived.Shelf.RegionOpenPlain
set_option linter.unusedSectionVars false
namespace Go.Ge
variable [Lp]
open RowKit Go.Shelf Go.Lib Go.Proofs
theorem Hj{P:Program}{b:Array Oper}{o:Oper}{a:Act}{w:World}{K:Act->World->Prop}{Q:Exit->Act->World->Prop}{E:Prop}
  (h:o.guard=none) (s x:Operand) (t:TypeId) (d:o.op=Op.call { callee:=Callee.builtin Builtin.append,args:=#[s,x],argTypes:=#[t,t] })
  (e f v:Value) (g:World) (i:a.eval s=e) (j:a.eval x=f) (c:(Builtin.append_ #[t,t] o.type #[e,f]).run P w=.ok v g) (l:K (a.put o.dst v) g) :
  if Region.wanted o (yielded b a.tmps)=true then Oper.wp P o a w K Q else E:=by
 have m:Region.wanted o (yielded b a.tmps)=true:=by simp[Region.wanted,h]
 rw[aQ m];unfold Oper.wp;simp[execOp,d,resolve,invoke,builtin,i,j,c,Result.andThen];exact l
theorem R8{P:Program}(w:World)(i ty c:TypeId)(b o n e:Nat){z:Value}{a:Array Value}{j:TypeId}{f:Nat×Nat}
  (l:P.underlying i=some (.slice c)) (p:∀w,(zeroValue c).run P w=.ok z w) (q:∀u∈(Builtin.zeroCells z.cells n).toList,u.oneCell'=true) (s:0<n)
  (r:w.heap[b]?=some (.cells a j f)) (g:lT a f) (h:o+(Builtin.zeroCells z.cells n).size<=a.size) :
  (Builtin.clear_ #[i] ty #[.slice (some ⟨b,o,none⟩) n e]).run P w=.ok (.tuple #[]) (w.setRow b (aU a.toList o (Builtin.zeroCells z.cells n).toList).toArray):=by
 have d:=cM (P:=P) b o j f (Builtin.zeroCells z.cells n).toList 0 a w r g (by simpa using h) q;rw[wS] at d;obtain⟨m,rfl⟩:∃m,n=m+1:=⟨n-1,by omega⟩;simp[Builtin.clear_,run_underlying l,p,d]
structure aaW (P:Program) (ρ:Ren) (nm:String) (k:Nat) (z:Value):Prop where
 mixed:P.follows .mixedOrders=true
 f24:P.funcs[ρ.f 24]?=some { Body2.n24 ρ with name:=nm }
 t3:P.underlying (ρ.t 3)=some (TypeDesc.int IntKind.i64)
 t4:P.underlying (ρ.t 4)=some TypeDesc.bool
 t24:P.underlying (ρ.t 24)=some (TypeDesc.slice<|ρ.t 9)
 z9:∀w,(Go.sizeOf<|ρ.t 9).run P w=.ok k w
 v9:∀w,(zeroValue<|ρ.t 9).run P w=.ok z w
variable {P:Program} {ρ:Ren} {nm:String} {k:Nat} {z:Value}
set_option maxHeartbeats 4000000 in
set_option maxRecDepth 100000 in
theorem R9(L:aaW P ρ nm k z)(a:Option Addr)(n c i:Nat)(w:World)(h:i<=n)(b:n<=c) :
  Calls P (ρ.f 24) #[.slice a n c,.int .i64 i,.int .i64 i] w λe w'=>e=.returned (.slice a n c)/\w'=w:=by
 have t3:=L.t3;have t4:=L.t4;have t24:=L.t24;have z9:=L.z9;have j:=run_underlying L.t3;have l:=run_underlying L.t4;have d:=run_underlying L.t24;have mixed:=L.mixed;have g:(i:Int)<=(n:Int):=by omega
 go_enter L.f24,Body2.n24_ntmps ρ
 go_wp2
 all_goals (go_ret;exact⟨rfl,rfl⟩)
set_option maxHeartbeats 4000000 in
set_option maxRecDepth 100000 in
theorem aaX(L:aaW P ρ nm k z)(b n c i j:Nat)(w g m:World)(o:i<j)(x:j<=n)(p:n<=c)(_hc63:c<=9223372036854775807)
  (a:∀A,(A=⟨b,j*k,none⟩\/(c=j/\A=⟨b,0,none⟩))->(Builtin.append_ #[ρ.t 24,ρ.t 24] (ρ.t 24) #[.slice (some ⟨b,0,none⟩) i c,.slice (some A) (n-j) (c-j)]).run P w.drew=.ok (.slice (some ⟨b,0,none⟩) (i+(n-j)) c) g)
  (q:∀ty,(Builtin.clear_ #[ρ.t 24] ty #[.slice (some ⟨b,(i+(n-j))*k,none⟩) (n-(i+(n-j)))<|c-(i+(n-j))]).run P g=.ok (.tuple #[]) m) :
  Calls P (ρ.f 24) #[.slice (some ⟨b,0,none⟩) n c,.int .i64 i,.int .i64 j] w λe w'=>e=.returned (.slice (some ⟨b,0,none⟩) (i+(n-j)) c)/\w'=m:=by
 have t3:=L.t3;have t4:=L.t4;have t24:=L.t24;have z9:=L.z9;have y:=run_underlying L.t3;have B:=run_underlying L.t4;have r:=run_underlying L.t24;have mixed:=L.mixed;obtain⟨A,C,l⟩:∃A:Addr,(if c=j then some (⟨b,0,none⟩:Addr) else some ⟨b,j*k,none⟩)=some A/\(A=⟨b,j*k,none⟩\/(c=j/\A=⟨b,0,none⟩)):=by
  by_cases h:c=j
  .exact⟨⟨b,0,none⟩,by simp[h],.inr ⟨h,rfl⟩⟩
  .exact⟨⟨b,j*k,none⟩,by simp[h],.inl rfl⟩
 have d:=a A l;clear a;have s:i<=c:=by omega
 have u:j<=c:=by omega
 have v:¬(c=i+(n-j)):=by omega
 go_enter L.f24,Body2.n24_ntmps ρ
 go_wp2_with fail
 go_region_law_o (refine Hj rfl (.tmp 22) (.tmp 25) (ρ.t 24) rfl (.slice (some ⟨b,0,none⟩) i c) (.slice (some A) (n-j)<|c-j) _ g (by simp[Act.eval,Act.put]) (by simp[Act.eval,Act.put]) d ?_)
 go_wp2
 go_ret
 exact⟨rfl,rfl⟩
def UQ{α:Type}(l:List α)(i j:Int):Option (List α):=bif inside i j (len l) then some (l.take i.toNat++l.drop j.toNat) else none
theorem X0{w:World}{I:Nat->Nat->Prop}{e:Ty}{l:List e.den}{cur F:List Value}{i j n:Nat}(f:l.length=n)(u:i<=j)(v:j<=n)(s:∀(q:Nat) (x:e.den),l[q]?=some x->bI w I e x ((cur.drop<|q*e.size).take e.size))
  (g:∀t,t<i*e.size->F[t]?=cur[t]?) (h:∀t,t<(n-j)*e.size->F[i*e.size+t]?=cur[j*e.size+t]?) :
  ∀(q:Nat) (x:e.den),(l.take i++l.drop j)[q]?=some x->bI w I e x ((F.drop<|q*e.size).take e.size):=by
 intro q x c;have m:(l.take i).length=i:=by rw[fB];omega
 have step:∀{a b:Nat},a<b->∀t,t<e.size->a*e.size+t<b*e.size:=λ{a b} o t d=>by
  have:(a+1)*e.size<=b*e.size:=fO _ o;rw[gx,Nat.one_mul] at this;omega
 rw[On,m] at c;split at c
 .rename_i p;rw[fi,aQ p] at c;rw[xo (L':=cur) (p':=q*e.size) λt d=>g _ (step p t d)];exact s q x c
 .rename_i p;obtain⟨r,rfl⟩:∃r,q=i+r:=⟨q-i,by omega⟩;rw[show i+r-i=r by omega,mn] at c;have y:j+r<n:=by rw[<-f];exact(fq.1 c).1
  rw[xo (L':=cur) (p':=(j+r)*e.size) λt d=>by
   have:=h (r*e.size+t) (step (show r<n-j by omega) t d);rw[show(i+r)*e.size+t=i*e.size+(r*e.size+t) by rw[gx,xP],this]
   congr 1;rw[gx];omega]
  exact s (j+r) x c
theorem Wy{e:Ty}(L:aaW P ρ nm e.size z)(hnm:(nm == "runtime.NumGoroutine")=false)(hz:z.cells.toList=eM e)(H:0<e.size) :
  gk P (ρ.f 24) (.own e (.pair (.int .i64)<|.pair (.int .i64) .unit) true λl x=>UQ (α:=e.den) l x.1 x.2.1):=by
 refine⟨⟨_,_,L.f24,hnm,rfl⟩,λI w W v rest l l' L0 x hI J s K d=>?_⟩;have hz1:∀u∈eM e,u.oneCell'=true:=λu hu=>(ng w I e).one u hu;obtain⟨M,N,xu⟩:=x;change Int at M;change Int at N;obtain⟨cs1,r1,rfl,O,cs2,r2,rfl,Q,rfl⟩:=K;obtain⟨O,_,_⟩:=O;obtain⟨Q,_,_⟩:=Q;subst O Q;change UQ (α:=e.den) l M N=some l' at d;have hsp:inside M N (len l)=true/\l'=l.take M.toNat++l.drop N.toNat:=by
  unfold UQ at d;cases hq:inside M N (len l) with
  | true=>rw[hq] at d;exact⟨rfl,(aI d).symm⟩
  | false=>rw[hq] at d;cases d
 obtain⟨R,rfl⟩:=hsp;obtain⟨hx0,hxl,hxn⟩:=iX R;simp only[len] at hxn;obtain⟨i,rfl⟩:∃i:Nat,M=i:=⟨M.toNat,by omega⟩;obtain⟨j,rfl⟩:∃j:Nat,N=j:=⟨N.toNat,by omega⟩;have hij:i<=j:=by omega
 have hj:j<=l.length:=by omega
 rw[qZ,qZ];have E:W=#[v,.int .i64 i,.int .i64 j]:=by apply B7.1;rw[J];rfl
 subst E;rcases sY i j with hlt|hge
 .rcases s with ⟨rfl,rfl,rfl⟩|⟨g,m,cur,tid,U,rfl,rfl,q3,q4,q5,q6,q7,q8,q9⟩
  .simp at hj;omega
  .have X:cur.toList.length=m*e.size:=by simpa using q7
   have hlk:l.length*e.size<=m*e.size:=fO _ q5;have hjk:j*e.size<=l.length*e.size:=fO _ hj;have Y:∀v∈cur.toList.take (l.length*e.size),v.oneCell'=true:=by
    intro v V;obtain⟨t,r⟩:=MR.1 V;rw[fi] at r;split at r
    .rename_i htl;have hd:t / e.size<l.length:=by rw[V1 H];exact htl
     have hm:=q9 (t / e.size) l[t / e.size] (fN hd);refine hm.one v ?_;have y:=wT t H;have htt:t / e.size*e.size+t % e.size=t:=by rw[QX];exact QP t e.size
     refine dY (i:=t % e.size) ?_;rw[fi,aQ y,mn,htt];exact r
    .cases r
   obtain⟨a,p⟩:∃a,a=(cur.toList.take<|l.length*e.size).drop (j*e.size):=⟨_,rfl⟩;have B:a.length=(l.length-j)*e.size:=by
    rw[p,kx,fB,pb (by omega),QY]
   have hn1:∀v∈a,v.oneCell'=true:=λv V=>Y v (by rw[p] at V;exact FU V);have aii:i*e.size+(l.length-j)*e.size<=m*e.size:=by rw[<-gx];exact fO _ (by omega)
   have F:i*e.size+a.length<=cur.toList.length:=by rw[B,X];exact aii
   have S:=bM F;obtain⟨Z,hZ⟩:∃Z,Z=(Builtin.zeroCells z.cells<|l.length-(i+(l.length-j))).toList:=⟨_,rfl⟩;have hzs:z.cells.size=e.size:=by rw[<-dO e,<-hz];simp
   have hZl:Z.length=(l.length-(i+(l.length-j)))*e.size:=by rw[hZ];simp[Builtin.zeroCells,hzs]
   have hZ1:∀u∈(Builtin.zeroCells z.cells<|l.length-(i+(l.length-j))).toList,u.oneCell'=true:=by
    intro u hu;simp only[Builtin.zeroCells] at hu;obtain⟨t,r⟩:=MR.1 hu;simp at r;obtain⟨t1,_,ht2⟩:=r;have y:t1 % z.cells.size<z.cells.size:=wT _ (by omega);refine hz1 u ?_;rw[<-hz,<-ht2,getElem!_pos z.cells _ y];simp
   have G:(i+(l.length-j))*e.size+Z.length<=(aU cur.toList (i*e.size) a).length:=by
    rw[S,X,hZl,<-gx];exact fO _ (by omega)
   have hs2:=bM G;have T:w.drew.heap[g]?=some (.cells cur tid U):=q3;have hg1:(w.drew.setRow g (aU cur.toList (i*e.size) a).toArray).heap[g]?=some (.cells (aU cur.toList (i*e.size) a).toArray tid U):=setRow_heap w.drew g cur _ tid U T;have aij:lT (aU cur.toList (i*e.size) a).toArray U:=q4.th.same (by rw[GW,S];simp);have aik:=λty=>R8 (P:=P) (w.drew.setRow g (aU cur.toList (i*e.size) a).toArray) (ρ.t 24) ty (ρ.t 9) g ((i+(l.length-j))*e.size) (l.length-(i+(l.length-j))) (m-(i+(l.length-j))) L.t24 L.v9 hZ1 (by omega) hg1 aij (by
    rw[GW,<-Ip,<-hZ];exact G)
   refine(aaX L g l.length m i j w _ _ hlt hj q5 (by unfold maxLen at q6;omega) (λA hA=>?_) aik).mono λq w' hw=>?_
   .have ail:Src P e.size (ρ.t 24) (.slice (some A) (l.length-j)<|m-j) (l.length-j) a w.drew:=Src.ofSlice w.drew L.t24 A (l.length-j) (m-j) a B (λt u r=>by
     rcases hA with rfl|⟨hc,rfl⟩
     .rw[addr_add,cell_of_heap T];rw[p,mn,fi] at r;split at r
      .simpa using r
      .cases r
     .have h0:a.length=0:=by rw[B,show l.length-j=0 by omega];simp
      rw[wN.1 h0] at r;cases r) hn1
    exact kE (P:=P) (t:=ρ.t 24) (tx:=ρ.t 24) (ty:=ρ.t 24) (sCap:=m) L.t24 (L.z9 w.drew) ail T q4.th (by omega) (by simpa using F)
   .obtain⟨rfl,rfl⟩:=hw;have hlen:(l.take i++l.drop j).length=i+(l.length-j):=by simp;omega
    have TZ:(aU (aU cur.toList (i*e.size) a) ((i+(l.length-j))*e.size) Z).toArray.size=cur.size:=by rw[GW,hs2,S];simp
    rw[<-hZ];refine⟨I,kG.mk' rfl rfl rfl (by simp) (λq hq hn=>?_) hI,_,some (g,m),rfl,.inr ⟨g,m,(aU (aU cur.toList (i*e.size) a) ((i+(l.length-j))*e.size) Z).toArray,tid,U,rfl,by rw[hlen],setRow_heap _ _ _ _ _ _ hg1,q4.same TZ,by rw[hlen];omega,q6,by rw[TZ];exact q7,q8,λq x hx=>?_⟩,λb c h=>.inl ⟨c,h⟩⟩
    .have C:q≠g:=λe=>hn ⟨m,by rw[e]⟩;rw[setRow_other _ _ _ _ C,setRow_other _ _ _ _ C];rfl
    .refine bI.mono (λ_ _ h=>h) (λb o hi=>di (by
      have C:b≠g:=λe=>q8 o (e▸hi);rw[setRow_other _ _ _ _ C,setRow_other _ _ _ _ C];rfl)) (X0 (cur:=cur.toList) (n:=l.length) rfl hij hj q9 (λt r=>?_) (λt r=>?_) q x hx)
     .rw[cw G,aQ (by rw[gx];omega),cw F,aQ r]
     .rw[cw G,aQ (by rw[gx];omega),cw F,aM (by omega),aQ (by rw[B];omega),p,mn,fi,aQ (by
       have:j*e.size+(l.length-j)*e.size=l.length*e.size:=by rw[<-gx];congr 1;omega
       omega)]
      congr 1;omega
 .obtain rfl:i=j:=by omega
  have acF:l.take i++l.drop i=l:=uu i l;obtain⟨D,n,c,V,B,hnc⟩:∃D n c,v=.slice D n c/\n=l.length/\n<=c:=by
   rcases s with ⟨_,rfl,rfl⟩|⟨g,m,cur,tid,U,_,rfl,_,_,q5,_⟩
   .exact⟨none,0,0,rfl,rfl,cg _⟩
   .exact⟨_,_,_,rfl,rfl,q5⟩
  subst V;refine(R9 L D n c i w (by omega) hnc).mono λq w' hw=>?_;obtain⟨rfl,rfl⟩:=hw;refine⟨I,kG.mk' rfl rfl rfl (cg _) (λ_ _ _=>rfl) hI,_,L0,rfl,?_,λg c h=>.inl ⟨c,h⟩⟩;rw[acF];exact s
end Go.Ge
namespace Go.Ge
variable [Lp]
def Hk{c:Type}(a b:Option c):Prop:=∀y,a=some y->b=some y
theorem Hk.refl{α:Type}(a:Option α):Hk a a:=λ_ h=>h
theorem Hk.af{b g:Type}{a c:Option b}{f d:b->Option g}(h:Hk a c)(k:∀x,Hk (f x) (d x)):Hk (af a f) (af c d):=λy e=>by
 cases a with
 | none=>cases e
 | some x=>rw[h x rfl];exact k x y e
theorem Hk.aj{α:Type}{c:Bool}{a d b e:Option α}(h:Hk a d)(k:Hk b e):Hk (aj c a b) (aj c d e):=by cases c<;>assumption
theorem Hk.cond{α:Type}{c:Bool}{a d b e:Option α}(h:Hk a d)(k:Hk b e):Hk (cond c a b) (cond c d e):=by cases c<;>assumption
theorem Hk.dh{S:Type}{a b:Option (S⊕(Nat×S))}(h:Hk a b):Hk (dh a) (dh b):=λy c=>by
 cases a with
 | none=>cases c
 | some x=>rw[h x rfl];exact c
theorem Hk.pick{a b c:Type}{f d:a->Option c}{g e:b->Option c}{x:a⊕b}(h:∀y,Hk (f y) (d y))(k:∀y,Hk (g y) (e y)):Hk (pick f g x) (pick d e x):=by
 cases x with
 | inl y=>exact h y
 | inr y=>exact k y
def af3{S R:Type}(f:S->Option (S⊕R))(s:S):Option R:=rounds f 100000 s
theorem Hk.loop{S R:Type}{f g:S->Option (S⊕R)}{s:S}(h:∀s,Hk (f s) (g s)):Hk (af3 f s) (Loop g s):=by
 have key:∀(n:Nat) (s:S),Hk (rounds f n s) (rounds g n s):=by
  intro n;induction n with
  | zero=>intro s y a;cases a
  | succ n c =>
    intro s y a;unfold rounds at a⊢;cases b:f s with
    | none=>rw[b] at a;cases a
    | some x =>
      rw[h s x b];rw[b] at a;cases x with
      | inl d=>exact c d y a
      | inr r=>exact a
 exact λy a=>pU (key _ s y a)
abbrev Sig:=Nat×Ty×Ty
end Go.Ge
