/- Plain laws of what the functions compute: part 7. -/
import Derived.Test.YtdpbdiikloedbaaGreatDoorPlF
set_option linter.unusedSectionVars false
noncomputable section
open Go.IntKind (i64)
namespace Go.Ge
variable [Lp]
def BQ(a:List ax)(id:Tx):Option Nat:=a.findIdx? λx=>decide (x.1=id)
def yw(a:List ax)(id:Tx):Int:=match BQ a id with|some i=>(i:Int)|none=>-1
theorem KB{b:List ax}{id:Tx}{i:Nat}{x:ax}(c:b[i]?=some x)(e:x.1=id)(f:∀(j:Nat) (y:ax),j<i->b[j]?=some y->decide (y.1=id)=false):BQ b id=some i:=by
 unfold BQ;rw[Zp];have a:=aD c;refine⟨a,?_,λj d=>?_⟩
 .rw[fN a] at c;rw[aI c,dI e]
 .have:=f j b[j] d (fN<|by omega);rw[this];simp
theorem D1{a:List ax}{id:Tx}(b:∀(i:Nat) (x:ax),a[i]?=some x->decide (x.1=id)=false):BQ a id=none:=by
 unfold BQ;rw[Zu];intro x c;obtain⟨i,d⟩:=bp.1 c;exact b i x d
theorem Ai{a:List ax}{id:Tx}{i:Nat}(h:BQ a id=some i):∃x,a[i]?=some x/\x.1=id:=by
 unfold BQ at h;rw[Zp] at h;obtain⟨b,c,_⟩:=h;exact⟨a[i],fN b,gM c⟩
theorem P0{a:List ax}{id:Tx}:(∃i,BQ a id=some i)↔∃x∈a,x.1=id:=by
 constructor
 .rintro⟨i,h⟩;obtain⟨x,b,c⟩:=Ai h;exact⟨x,dY b,c⟩
 .rintro⟨x,b,c⟩;cases h:BQ a id with
  | some i=>exact⟨i,rfl⟩
  | none =>
    unfold BQ at h;rw[Zu] at h;have:=h x b;simp[c] at this
theorem abS{a:List ax}{id:Tx}:yw a id<0↔¬∃x∈a,x.1=id:=by
 rw[<-P0];unfold yw;cases h:BQ a id with
 | none=>simp
 | some i=>simp only[sq,exists_eq',not_true_eq_false,iff_false];omega
theorem N9{f:(Int×Int×ai)×ai->Option (((Int×Int×ai)×ai)⊕(Nat×(Int×Int×ai)×ai))}(a:List ax)(id:Tx)(n:a.length<=1000000)
  (d:∀c i:Int,f ((c,i,()),())=aj (aY i<|len a) (af (idx a i) λy=>aj (bt y.1 id) (some<|.inr (1,(i,i,()),())) (some<|.inl ((c,aF .i64 i 1,()),()))) (some<|.inr (0,(c,i,()),()))) :
  af (Loop f (((0:Int),(0:Int),()),())) (λe=>aj (dJ e.1 0) (some ((-1:Int),())) (some (e.2.1.1,())))=some (yw a id,()):=by
 rcases ko (f:=f) a (λi=>(((0:Int),i,()),())) (λ_ x=>decide (x.1=id)) (λi x=>(1,((i:Int),(i:Int),()),())) (0,((0:Int),len a,()),()) (by omega) (λi x b g j=>by
  rw[d,ak g,ab,ao b,aa,hJ,j];by_cases h:x.1=id<;>simp[bt,h]) (by rw[d,ay,ae];rfl) with ⟨i,x,b,k,l,h⟩|⟨m,h⟩
 .rw[h,aa];unfold yw;rw[KB b (gM k) l];rfl
 .rw[h,aa];unfold yw;rw[D1 m];rfl
theorem KC(a:List ax)(id:Tx)(b:a.length<=1000000):ym (a,id,())=some (yw a id,()):=N9 a id b λc i=>rfl
theorem CG(s:aZ)(id:Tx)(a:s.2.2.1.length<=1000000):jn (s,id,())=some (yw s.2.2.1 id,()):=N9 s.2.2.1 id a λc i=>rfl
def yx(ls:List ax):Nat->Tx->List ax->List ax×Int
 | n,id,acc=>match BQ ls id with
   | none=>([],3)
   | some i=>match n,ls[i]? with
     | 0,_=>([],5)
     | n+1,some x=>if x.2.1=[] then(acc++[x],0) else yx ls n x.2.1 (acc++[x])
     | _,none=>([],3)
def bc(ls:List ax)(id:Tx):List ax×Int:=yx ls 16 id []
theorem VE(a:List ax)(c:Tx)(d:a.length<=1000000):∀(n:Nat) (id:Tx) (acc:List ax) (k:Nat),n+k=16->acc.length<=k ->
  ∃f g j,Loop (kf (a,c,())) ((id,([]:List ax),(0:Int),(),(k:Int),()),acc,())=some (1,(f,(yx a n id acc).1,(yx a n id acc).2,g),j):=by
 intro n;induction n with
 | zero =>
   intro id acc k l m;rw[aN];unfold kf;dsimp only;rw[b6<|by omega,ab,KC a id d,aa];dsimp only;unfold yx yw;cases h:BQ a id with
   | none=>exact⟨_,_,_,rfl⟩
   | some i =>
     dsimp only;rw[aB<|by omega,ae,aJ (by omega),ab];exact⟨_,_,_,rfl⟩
 | succ n o =>
   intro id acc k l m;rw[aN];unfold kf;dsimp only;rw[b6<|by omega,ab,KC a id d,aa];dsimp only;unfold yx yw;cases h:BQ a id with
   | none=>exact⟨_,_,_,rfl⟩
   | some i =>
     obtain⟨x,e,p⟩:=Ai h;dsimp only;rw[aB<|by omega,ae,aE (by omega),ae,ao e,aa,show fits (plus (@len ax acc)<|@len ax ([x]:List ax))=true from bD (by show _+1<=_;omega),ab,aa,e];dsimp only;rw[fG];by_cases b:x.2.1=[]
     .rw[dI b,ab,aQ b];exact⟨_,_,_,rfl⟩
     .rw[cJ b,ae,aM b,aa,aL (by omega)];have:=o x.2.1 (acc++[x]) (k+1) (by omega) (by rw[fQ];show _+1<=_;omega);exact this
theorem Oa(a:List ax)(id:Tx)(b:a.length<=1000000):oD (a,id,())=some ((bc a id).1,(bc a id).2,()):=by
 unfold oD;dsimp only;obtain⟨d,e,f,h⟩:=VE a id b 16 id [] 0 rfl (cg _);have c:Loop (kf (a,id,())) ((id,([]:List ax),(0:Int),(),(0:Int),()),([]:List ax),())=_:=h;rw[c,aa];rfl
theorem adw{ls:List ax}:∀{n:Nat} {id:Tx} {acc:List ax},(∀x∈acc,x∈ls)->(∀x∈(yx ls n id acc).1,x∈ls)/\(yx ls n id acc).1.length<=n+acc.length:=by
 intro n;induction n with
 | zero =>
   intro id acc h;unfold yx;cases BQ ls id<;>simp
 | succ n e =>
   intro id acc h;unfold yx;cases f:BQ ls id with
   | none=>simp
   | some i =>
     dsimp only;cases hx:ls[i]? with
     | none=>simp
     | some x =>
       dsimp only;have d:∀y∈acc++[x],y∈ls:=λy c=>by
        rcases pO.1 c with c|c
        .exact h y c
        .rw[wO] at c;subst c;exact dY hx
       split
       .exact⟨d,by rw[fQ];show _+1<=_;omega⟩
       .obtain⟨a,b⟩:=e (id:=x.2.1) d;refine⟨a,?_⟩;rw[fQ] at b;have:([x]:List ax).length=1:=rfl;omega
theorem rC{ls:List ax}{id:Tx}:(∀x∈(bc ls id).1,x∈ls)/\(bc ls id).1.length<=16:=by
 obtain⟨a,b⟩:=adw (ls:=ls) (n:=16) (id:=id) (acc:=[]) (λx c=>by cases c);exact⟨a,by unfold bc;simpa using b⟩
theorem KD{l:List Nd}(a:Valid l)(s:aq):lJ (l,s,())=some ((eI l s).1,(eI l s).2,()):=by
 obtain⟨d,e⟩:=Ia s;obtain⟨v,f,g⟩:=rz l (kg a);unfold lJ;dsimp only;rw[f,aa,g.2 a];dsimp only;rw[aA,ae,Ah s,aa,N8 s,d];dsimp only;unfold eI;by_cases b:(Bj s).2=0
 .rw[aQ b];by_cases c:gw (Bj s).1=true
  .rw[aQ (⟨b,c⟩:(Bj s).2=0/\gw (Bj s).1=true),show nt (aX 0 0)=false from rfl,ae,aa,Vz l _ (kg a) e,aa]
  .rw[aM (λq:(Bj s).2=0/\gw (Bj s).1=true=>c q.2),Te a c];rfl
 .rw[aM b,aM λq:(Bj s).2=0/\gw (Bj s).1=true=>b q.1];rfl
theorem Y3(a:List Tx)(s:a.length<=1000000):vR (a,())=some ((qL a []).1,(qL a []).2,()):=by
 unfold vR;have key:∀(r:List Tx) (t:List Nd) (k:Nat),a=a.take k++r->k+r.length=a.length->Valid t->∃q,(Loop (fL (a,())) ((([]:List Nd),(0:Int),t,(k:Int),()),())=some (1,(([]:List Nd),(qL r t).2,q),())/\(qL r t).1=[]) \/
   ∃m n o,Loop (fL (a,())) ((([]:List Nd),(0:Int),t,(k:Int),()),())=some (0,(m,n,(qL r t).1,o),())/\(qL r t).2=0:=by
  intro r;induction r with
  | nil =>
    intro t k e b f;rw[eB,wS] at b;refine⟨((t,(k:Int),()):List Nd×Int×ai),.inr ⟨[],0,((k:Int),()),?_,rfl⟩⟩;rw[aN];unfold fL;dsimp only;rw[b,ay,ae];rfl
  | cons d r p =>
    intro t k e b f;rw[dd] at b;have hx:a[k]?=some d:=by
     rw[e,Ij (by rw[fB];omega),fB];simp[pb<|show k<=a.length by omega]
    have step:fL (a,()) ((([]:List Nd),(0:Int),t,(k:Int),()),())=some (if(eI t d).2=0 then .inl ((([]:List Nd),(0:Int),(eI t d).1,((k+1:Nat):Int),()),()) else .inr (1,(([]:List Nd),(eI t d).2,t,(k:Int),()),())):=by
     unfold fL;dsimp only;rw[ak<|by omega,ab,ao hx,aa,KD f d,aa,aL (by omega)];dsimp only;by_cases c:(eI t d).2=0
     .rw[aJ c,aA,ae,aQ c]
     .rw[aE c,aw,ab,aM c]
    rw[aN,step];unfold qL;by_cases c:(eI t d).2=0
    .rw[aQ c,aQ c];have g:Valid (eI t d).1:=by
      rcases xD f d with ⟨_,h,_⟩|⟨h,_⟩
      .exact h
      .exact absurd c h
     exact p (eI t d).1 (k+1) (by rw[Be,hx];simpa using e) (by omega) g
    .rw[aM c,aM c];exact⟨(t,(k:Int),()),.inl ⟨rfl,rfl⟩⟩
 have i:Valid []:=yp Vs.1;obtain⟨q,⟨h,j⟩|⟨m,n,o,h,j⟩⟩:=key a [] 0 (by simp) (by simp) i
 .have l:Loop (fL (a,())) ((([]:List Nd),(0:Int),([]:List Nd),(0:Int),()),())=_:=h;rw[l,aa,j];rfl
 .have l:Loop (fL (a,())) ((([]:List Nd),(0:Int),([]:List Nd),(0:Int),()),())=_:=h;rw[l,aa,j];rfl
def rD(ls:List ax)(a:List Tx)(id:Tx):Tx:=match BQ ls id with|some i=>(a[i]?).getD []|none=>[]
def cT(ls:List ax)(a:List Tx)(id:Tx):List Nd×Int :=
 if(bc ls id).2=0 then qL ((bc ls id).1.reverse.map λx=>rD ls a x.1) [] else([],(bc ls id).2)
theorem KE(s:aZ)(i:Nat):qt (s,(i:Int),())=some ((s.2.2.2.1[i]?).getD [],()):=by
 unfold qt;dsimp only;by_cases h:i<s.2.2.2.1.length
 .have hx:s.2.2.2.1[i]?=some s.2.2.2.1[i]:=fN h;rw[ak h,ab,ao hx,aa,hx];rfl
 .have hx:s.2.2.2.1[i]?=none:=Om (by omega);rw[aB<|by unfold len;omega,ae,hx];rfl
theorem CH(s:aZ)(id:Tx)(g:s.2.2.1.length<=1000000):kK (s,id,())=some ((cT s.2.2.1 s.2.2.2.1 id).1,(cT s.2.2.1 s.2.2.2.1 id).2,()):=by
 obtain⟨h,b⟩:=rC (ls:=s.2.2.1) (id:=id);unfold kK cT;dsimp only;rw[Oa _ id g,aa];dsimp only;by_cases a:(bc s.2.2.1 id).2=0
 .rw[aJ a,aA,ae,aQ a];generalize (bc s.2.2.1 id).1=c at h b;generalize k:(c,(bc s.2.2.1 id).2,())=q;have d:q.1=c:=by rw[<-k]
  have key:∀(n:Nat) (acc:List Tx),n<=c.length->acc.length+n<=1000->∃z,Loop (lp (s,id,()) q) (((),(n:Int)-1,()),acc,())=some (z,(acc++(c.take n).reverse.map λx=>rD s.2.2.1 s.2.2.2.1 x.1,())):=by
   intro n;induction n with
   | zero =>
     intro acc _ _;refine⟨((),((0:Nat):Int)-1,()),?_⟩;rw[aN];unfold lp;dsimp only;rw[eF<|by omega,ae];simp[dh]
   | succ n l =>
     intro acc m o;obtain⟨x,e⟩:∃x,c[n]?=some x:=⟨_,fN (show n<c.length by omega)⟩;obtain⟨i,j⟩:=P0.2 ⟨x,h x (dY e),rfl⟩;have hd:rD s.2.2.1 s.2.2.2.1 x.1=(s.2.2.2.1[i]?).getD []:=by unfold rD;rw[j]
     obtain⟨z,f⟩:=l (acc++[rD s.2.2.1 s.2.2.2.1 x.1]) (by omega) (by rw[fQ];show _+1+n<=_;omega);refine⟨z,?_⟩;have step:lp (s,id,()) q (((),(n:Int),()),acc,())=some (.inl (((),(n:Int)-1,()),acc++[rD s.2.2.1 s.2.2.2.1 x.1],())):=by
      unfold lp;dsimp only;rw[b6<|by omega,ab,d,ao e,aa,CG s x.1 g,aa];dsimp only;rw[show yw s.2.2.1 x.1=(i:Int) by unfold yw;rw[j],KE s i,aa,<-hd];dsimp only;rw[show fits (plus (@len Tx acc)<|@len Tx ([rD s.2.2.1 s.2.2.2.1 x.1]:List Tx))=true from bD (by show _+1<=_;omega),ab,de (by omega) (by omega)];rfl
     rw[show((n+1:Nat):Int)-1=(n:Int) by omega,aN,step];refine tn f ?_;rw[Be,e];simp
  obtain⟨z,f⟩:=key c.length [] (cg _) (by simp;omega);have hlen:cC .i64 (len c) 1=(c.length:Int)-1:=de (by unfold len;omega) (by unfold len;omega);rw[hlen,f,aa];dsimp only;rw[wQ,sW,Y3 _ (by rw[qI,MU];omega),aa]
 .rw[aE a,aw,ab,aM a]
def l4(s:Tx):Prop:=(Bj s).2=0/\gw (Bj s).1=true
structure td (ls:List ax) (ds:List Tx):Prop where
 same:ds.length=ls.length
 chain:∀x∈ls,(bc ls x.1).2=0
 each:∀(i:Nat) (x:ax) (d:Tx),ls[i]?=some x->ds[i]?=some d->x.2.2.2.2.2.2.1=true/\x.2.2.2.2.2.1=0/\x.2.2.2.2.1=(d.length:Int)/\x.2.2.2.1=j0 d/\l4 d/\(cT ls ds x.1).2=0
open Classical in
theorem P1(s:aZ)(E:s.2.2.1.length<=100)(B:∀d∈s.2.2.2.1,d.length<=8192):∃b,qu (s,())=some (b,())/\(b=true↔td s.2.2.1 s.2.2.2.1):=by
 have n:si (s.2.2.1,())=some (if(∀x∈s.2.2.1,(bc s.2.2.1 x.1).2=0) then 0 else 2,()):=by
  unfold si;rcases ko (f:=nO (s.2.2.1,())) s.2.2.1 (λi=>(((0:Int),i,()),())) (λ_ x=>decide ((bc s.2.2.1 x.1).2≠0)) (λi x=>(1,((2:Int),(i:Int),()),())) (0,((0:Int),len s.2.2.1,()),()) (by omega) (λi x c o y=>by
   unfold nO;dsimp only;rw[ak o,ab,ao c,aa,Oa _ x.1 (by omega),aa,y];dsimp only;by_cases h:(bc s.2.2.1 x.1).2=0
   .rw[aJ h];simp[h,nt,aj]
   .rw[aE h];simp[h,nt,aj]) (by unfold nO;dsimp only;rw[ay,ae];rfl) with ⟨i,x,c,z,_,h⟩|⟨A,h⟩
  .rw[h,aa,aM λq=>by simp[q x<|dY c] at z];rfl
  .rw[h,aa,aQ λx c=>by
   obtain⟨i,o⟩:=bp.1 c;have:=A i x o;simpa using this];rfl
 unfold qu;dsimp only;rw[n,aa];by_cases g:s.2.2.2.1.length=s.2.2.1.length
 .rw[aJ<|show @len Tx s.2.2.2.1=@len ax s.2.2.1 by unfold len;omega,aA,aw,ab,aa];by_cases k:∀x∈s.2.2.1,(bc s.2.2.1 x.1).2=0
  .rw[aQ k,show nt (aX (0:Int) 0)=false from rfl,ae];obtain⟨l,j⟩:∃l:Nat->ax->Prop,∀i x,l i x↔¬∃d,s.2.2.2.1[i]?=some d/\x.2.2.2.2.2.2.1=true/\x.2.2.2.2.2.1=0/\x.2.2.2.2.1=(d.length:Int)/\x.2.2.2.1=j0 d/\l4 d/\(cT s.2.2.1 s.2.2.2.1 x.1).2=0:=⟨_,λ_ _=>Iff.rfl⟩;rcases ko (f:=mb (s,())) s.2.2.1 (λi=>((false,i,()),())) (λi x=>decide (l i x)) (λi x=>(1,(false,(i:Int),()),())) (0,(false,len s.2.2.1,()),()) (by omega) (λi x c o y=>by
    obtain⟨d,a⟩:∃d,s.2.2.2.1[i]?=some d:=⟨_,fN (show i<s.2.2.2.1.length by omega)⟩;have C:=B d (dY a);unfold mb;dsimp only;rw[ak o,ab,ak (by omega),ab,ao c,aa,ao a,aa,aa,NH d (by omega),aa,aa,Ah d,aa,CH s x.1 (by omega),aa,y];dsimp only;have m:l i x↔¬(x.2.2.2.2.2.2.1=true/\x.2.2.2.2.2.1=0/\x.2.2.2.2.1=(d.length:Int)/\x.2.2.2.1=j0 d/\l4 d/\(cT s.2.2.1 s.2.2.2.1 x.1).2=0):=by
     rw[j];constructor
     .intro h q;exact h ⟨d,a,q⟩
     .rintro h ⟨D,e,q⟩;rw[a] at e;obtain rfl:=aI e;exact h q
    by_cases p:x.2.2.2.2.2.2.1=true
    rotate_left
    .rw[aQ<|dI<|m.2 λq=>p q.1,show x.2.2.2.2.2.2.1=false by simpa using p];rfl
    rw[p,aA,ae];by_cases r:x.2.2.2.2.2.1=0
    .rw[aJ r,aA,ae];by_cases t:x.2.2.2.2.1=(d.length:Int)
     .rw[show aX x.2.2.2.2.1 (@len UInt8 d)=true from aJ t,aA,ae,fG];by_cases u:x.2.2.2.1=j0 d
      .rw[dI u,aA,ae];by_cases v:l4 d
       .rw[aQ<|show(Bj d).2=0/\gw (Bj d).1=true from v,show nt (aX (0:Int) 0)=false from rfl,ae];by_cases w:(cT s.2.2.1 s.2.2.2.1 x.1).2=0
        .rw[aJ w,aA,ae,aM (by rw[Io];exact λq=>m.1 q ⟨p,r,t,u,v,w⟩)]
        .rw[aE w,aw,ab,aQ (dI<|m.2 λq=>w q.2.2.2.2.2)]
       .rw[aM<|show ¬((Bj d).2=0/\gw (Bj d).1=true) from v,show nt (aX (10:Int) 0)=true from rfl,ab,aQ (dI<|m.2 λq=>v q.2.2.2.2.1)]
      .rw[cJ u,aw,ab,aQ (dI<|m.2 λq=>u q.2.2.2.1)]
     .rw[show aX x.2.2.2.2.1 (@len UInt8 d)=false from aE t,aw,ab,aQ (dI<|m.2 λq=>t q.2.2.1)]
    .rw[aE r,aw,ab,aQ (dI<|m.2 λq=>r q.2.1)]) (by
    unfold mb;dsimp only;rw[ay,ae,ae];rfl) with ⟨i,x,c,z,_,h⟩|⟨A,h⟩
   .rw[h,aa];refine⟨false,rfl,λq=>(by cases q),λq=>?_⟩;obtain⟨d,a⟩:∃d,s.2.2.2.1[i]?=some d:=⟨_,fN (show i<s.2.2.2.1.length by have:=aD c;omega)⟩;exact absurd ⟨d,a,q.each i x d c a⟩ ((j i x).1<|gM z)
   .rw[h,aa];refine⟨true,rfl,λ_=>⟨g,k,λi x d c a=>?_⟩,λ_=>rfl⟩;have:=A i x c;simp only[GS,j,Classical.not_not] at this;obtain⟨D,e,q⟩:=this;rw[a] at e;obtain rfl:=aI e;exact q
  .rw[aM k,show nt (aX (2:Int) 0)=true from rfl,ab];exact⟨false,rfl,λq=>(by cases q),λq=>absurd q.chain k⟩
 .rw[aE<|show @len Tx s.2.2.2.1≠@len ax s.2.2.1 by unfold len;omega,aw,aA,ae,aa,ab];exact⟨false,rfl,λq=>(by cases q),λq=>absurd q.same g⟩
structure Ib (s:aZ):Prop where
 ll:s.2.2.1.length<=40
 il:s.2.1.length<=40
 bl:s.1.length<=40
 xl:∀x∈s.2.2.1,BdL x
 xi:∀x∈s.2.1,BdI x
 xb:∀x∈s.1,BdB x
 dl:∀d∈s.2.2.2.1,d.length<=8192
 ml:s.2.2.2.2.1.length<=1000000
theorem Ib.agl{s:aZ}(h:Ib s):BdX (0,s.2.2.1,[],[],()) :=
 ⟨⟨h.ll,λx a=>(h.xl x a).2.2.1,by simp,λx a=>(by cases a),by simp,λx a=>(by cases a)⟩,h.xl,λx a=>(by cases a),λx a=>(by cases a)⟩
theorem Ib.agm{s:aZ}(h:Ib s):BdX (0,[],s.2.1,[],()) :=
 ⟨⟨by simp,λx a=>(by cases a),h.il,λx a=>(h.xi x a).2.1,by simp,λx a=>(by cases a)⟩,λx a=>(by cases a),h.xi,λx a=>(by cases a)⟩
theorem Ib.agn{s:aZ}(h:Ib s):BdX (0,[],[],s.1,()) :=
 ⟨⟨by simp,λx a=>(by cases a),by simp,λx a=>(by cases a),h.bl,λx a=>(h.xb x a).2.1⟩,λx a=>(by cases a),λx a=>(by cases a),h.xb⟩
def Ob(s:aZ)(x:lY):Prop:=x.2.2.1=[]\/∃y∈s.2.2.1,y.1=x.2.2.1
def xE(s:aZ)(x:yj):Prop:=(x.2.2.1=[]\/∃y∈s.2.1,y.1=x.2.2.1)/\∃y∈s.2.2.1,y.1=x.2.2.2.1
def Ic(s:aZ)(x:du):Prop:=(∃y∈s.2.2.1,y.1=x.1)/\1<=x.2.1/\x.2.1<=1000
structure Aj (s:aZ):Prop where
 b:wB 1 (0,[],[],s.1,())
 i:wB 2 (0,[],s.2.1,[],())
 l:wB 3 (0,s.2.2.1,[],[],())
 lays:td s.2.2.1 s.2.2.2.1
 VF:s.2.2.2.2.1.length<=32
 tops:∀x∈s.2.1,Ob s x
 refs:∀x∈s.1,xE s x
 mts:∀x∈s.2.2.2.2.1,Ic s x
 W2:(s.2.2.2.2.1.map (·.1)).Pairwise λx y=>iu x y=true
theorem aeX{p:Prop}[Decidable p](h:p):¬decide (¬p)=true:=by simpa using h
theorem aeY{p:Prop}[Decidable p](h:¬p):decide (¬p)=true:=dI h
theorem abT(s:aZ)(x:yj)(b:s.2.1.length<=1000000)(c:Bool):∃q,Loop (mT (s,()) x) ((c,(0:Int),()),())=some ((c||s.2.1.any (λy=>decide (y.1=x.2.2.1)),q),()):=by
 obtain⟨t,_,h,d⟩:=xp (f:=mT (s,()) x) s.2.1 (λ(c:Bool) i=>((c,i,()),())) (λc _ y=>c||decide (y.1=x.2.2.1)) (λc=>((c,(s.2.1.length:Int),()),())) (λ_ _=>True) (by omega) (λc i y e b g _=>by
  refine⟨?_,trivial⟩;unfold mT;dsimp only;rw[ak b,ab,g];cases c with
  | true=>rfl
  | false =>
    rw[ae,ao e,aa,fG];by_cases q:y.1=x.2.2.1<;>simp[q,dh]) (λc _=>by
  unfold mT;dsimp only;rw[ay,ae];rfl) c trivial
 refine⟨((s.2.1.length:Int),()),h.trans ?_⟩;have:t=(c||s.2.1.any λy=>decide (y.1=x.2.2.1)):=by
  rw[d];have key:∀(l:List lY) (k:Nat) (c:Bool),(l.zipIdx k).foldl (λa p=>a||decide (p.1.1=x.2.2.1)) c=(c||l.any λy=>decide (y.1=x.2.2.1)):=by
   intro l;induction l with
   | nil=>intro k c;simp
   | cons y r j=>intro k c;rw[List.zipIdx_cons,QQ,j];simp[V9]
  exact key _ _ _
 rw[this]
open Classical in
theorem Oc(s:aZ)(h:Ib s):∃b,kv (s,())=some (b,())/\(b=true↔Aj s):=by
 have U:=h.ll;obtain⟨V,W,N⟩:=zW 1 (0,[],[],s.1,()) (.inl rfl) rfl h.agn;obtain⟨X,Y,O⟩:=zW 2 (0,[],s.2.1,[],()) (.inr<|.inl rfl) rfl h.agm;obtain⟨Z,c3,P⟩:=zW 3 (0,s.2.2.1,[],[],()) (.inr<|.inr rfl) rfl h.agl;obtain⟨Q,c4,R⟩:=P1 s (by omega) h.dl;have H:aY (32:Int) (@len du s.2.2.2.2.1)=decide (32<s.2.2.2.2.1.length):=by unfold aY len;apply gi.2;omega
 unfold kv;dsimp only;rw[W,aa,pn (by rw[Y,aa]),pn (by rw[c3,aa]),pn (by rw[c4,aa]),H];by_cases p:V=0
 rotate_left
 .rw[aE p];exact⟨false,rfl,λq=>(by cases q),λq=>absurd (N.2 q.b) p⟩
 by_cases u:X=0
 rotate_left
 .rw[aJ p,aE u];exact⟨false,rfl,λq=>(by cases q),λq=>absurd (O.2 q.i) u⟩
 by_cases A:Z=0
 rotate_left
 .rw[aJ p,aJ u,aE A];exact⟨false,rfl,λq=>(by cases q),λq=>absurd (P.2 q.l) A⟩
 by_cases B:Q=true
 rotate_left
 .have:Q=false:=by simpa using B
  rw[aJ p,aJ u,aJ A,this];exact⟨false,rfl,λq=>(by cases q),λq=>absurd (R.2 q.lays) B⟩
 by_cases S:32<s.2.2.2.2.1.length
 .rw[aJ p,aJ u,aJ A,B,dI S];exact⟨false,rfl,λq=>(by cases q),λq=>by have:=q.VF;omega⟩
 rw[aJ p,aJ u,aJ A,B,cJ S];rw[show aj (nt<|!(nt<|!(nt<|!(nt<|nt true)||nt true)||nt true)||nt true) false true=false from rfl,ae];have e:∀id,jn (s,id,())=some (yw s.2.2.1 id,()):=λid=>CG s id (by omega);have g:∀id,aY (yw s.2.2.1 id) 0=decide (¬∃y∈s.2.2.1,y.1=id):=λid=>by unfold aY;exact gi.2 abS
 rcases ko (f:=qv (s,())) s.2.1 (λi=>((false,i,()),())) (λ_ x=>decide (¬Ob s x)) (λi x=>(1,(false,(i:Int),()),())) (0,(false,len s.2.1,()),()) (by have:=h.il;omega) (λi x d j r=>by
  unfold qv;dsimp only;rw[ak j,ab,ao d,aa,fG,r];by_cases q:x.2.2.1=[]
  .rw[dI q,aA,ae,aM (aeX<|show Ob s x from .inl q)]
  .rw[cJ q,aw,ab,aa,e,aa,g];by_cases z:∃y∈s.2.2.1,y.1=x.2.2.1
   .rw[cJ<|λw=>w z,ae,aM (aeX<|show Ob s x from .inr z)]
   .rw[dI z,ab,aQ (aeY<|show ¬Ob s x by rintro(w|w);exact q w;exact z w)]) (by
  unfold qv;dsimp only;rw[ay,ae];rfl) with ⟨i,x,d,C,_,m⟩|⟨D,m⟩
 .rw[m,aa];exact⟨false,rfl,λq=>(by cases q),λq=>absurd (q.tops x<|dY d) (gM C)⟩
 have t1:∀x∈s.2.1,Ob s x:=λx d=>by
  obtain⟨i,j⟩:=bp.1 d;have:=D i x j;simpa using this
 rw[m,aa];dsimp only;rw[bO,ab];rcases ko (f:=qw (s,())) s.1 (λi=>((false,i,()),())) (λ_ x=>decide (¬xE s x)) (λi x=>(1,(false,(i:Int),()),())) (0,(false,len s.1,()),()) (by have:=h.bl;omega) (λi x d j r=>by
  obtain⟨q,hq⟩:=abT s x (by have:=h.il;omega) (bt x.2.2.1 []);unfold qw;dsimp only;rw[ak j,ab,ao d,aa,hq,aa,r];dsimp only;rw[pn<|by rw[e,aa,g]];have I:(bt x.2.2.1 []||s.2.1.any λy=>decide (y.1=x.2.2.1))=decide (x.2.2.1=[]\/∃y∈s.2.1,y.1=x.2.2.1):=by
   rw[fG,Bool.decide_or]
   congr 1
   rw[Ey,FZ,Io];simp
  rw[I];by_cases n:x.2.2.1=[]\/∃y∈s.2.1,y.1=x.2.2.1
  .by_cases t:∃y∈s.2.2.1,y.1=x.2.2.2.1
   .rw[dI n,cJ (λw=>w t),aM (aeX<|show xE s x from⟨n,t⟩)];rfl
   .rw[dI n,dI t,aQ (aeY<|show ¬xE s x from λw=>t w.2)];rfl
  .rw[cJ n,aQ (aeY<|show ¬xE s x from λw=>n w.1)];rfl) (by
  unfold qw;dsimp only;rw[ay,ae];rfl) with ⟨i,x,d,C,_,m⟩|⟨D,m⟩
 .rw[m,aa];exact⟨false,rfl,λq=>(by cases q),λq=>absurd (q.refs x<|dY d) (gM C)⟩
 have t2:∀x∈s.1,xE s x:=λx d=>by
  obtain⟨i,j⟩:=bp.1 d;have:=D i x j;simpa using this
 rw[m,aa];dsimp only;rw[bO,ab];obtain⟨v,c⟩:∃v:Nat->du->Prop,∀i x,v i x↔¬(Ic s x/\∀(k:Nat) (y:du),k+1=i->s.2.2.2.2.1[k]?=some y->iu y.1 x.1=true):=⟨_,λ_ _=>Iff.rfl⟩;rcases ko (f:=qx (s,())) s.2.2.2.2.1 (λi=>((false,i,()),())) (λi x=>decide (v i x)) (λi x=>(1,(false,(i:Int),()),())) (0,(false,len s.2.2.2.2.1,()),()) (by have:=h.ml;omega) (λi x d j r=>by
  unfold qx;dsimp only;rw[ak j,ab,ao d,aa,e,aa,g,r];by_cases n:∃y∈s.2.2.1,y.1=x.1
  rotate_left
  .rw[dI n,ab,aQ (dI<|(c i x).2 λw=>n w.1.1)]
  rw[cJ<|λw=>w n,ae];by_cases t:1<=x.2.1
  rotate_left
  .rw[aK<|by omega,ab,aQ (dI<|(c i x).2 λw=>t w.1.2.1)]
  rw[aB<|by omega,ae];by_cases J:x.2.1<=1000
  rotate_left
  .rw[aK<|by omega,ab,aQ (dI<|(c i x).2 λw=>J w.1.2.2)]
  rw[aB<|by omega,ae];cases i with
  | zero =>
    rw[show aY (0:Int) ((0:Nat):Int)=false from rfl,ae,aM (by rw[Io,c];exact λw=>w ⟨⟨n,t,J⟩,λk y K=>by omega⟩)]
  | succ k =>
    obtain⟨y,E⟩:∃y,s.2.2.2.2.1[k]?=some y:=⟨_,fN (show k<s.2.2.2.2.1.length by omega)⟩;rw[aK<|by omega,ab,de (by omega) (by omega),show((k+1:Nat):Int)-1=(k:Int) by omega,ao E,aa];by_cases G:iu y.1 x.1=true
    .rw[G,aA,ae,aM (by
     rw[Io,c];refine λw=>w ⟨⟨n,t,J⟩,λk' y' K F=>?_⟩;obtain rfl:k'=k:=by omega
     rw[E] at F;obtain rfl:=aI F;exact G)]
    .rw[show iu y.1 x.1=false by simpa using G,aw,ab,aQ (dI<|(c _ x).2 λw=>G (w.2 k y rfl E))]) (by
  unfold qx;dsimp only;rw[ay,ae];rfl) with ⟨i,x,d,C,_,m⟩|⟨D,m⟩
 .rw[m,aa];refine⟨false,rfl,λq=>(by cases q),λq=>absurd ⟨q.mts x<|dY d,λk y K E=>?_⟩ ((c i x).1<|gM C)⟩;subst K;exact Kb.1 q.W2 k y.1 x.1 (by rw[wP,E];rfl) (by rw[wP,d];rfl)
 rw[m,aa];have o:∀(i:Nat) (x:du),s.2.2.2.2.1[i]?=some x->Ic s x/\∀(k:Nat) (y:du),k+1=i->s.2.2.2.2.1[k]?=some y->iu y.1 x.1=true:=λi x d=>by
  have:=D i x d;simp only[GS,c,Classical.not_not] at this;exact this
 refine⟨true,rfl,λ_=>⟨N.1 p,O.1 u,P.1 A,R.1 B,by omega,t1,t2,λx d=>?_,Kb.2 λi a b r T=>?_⟩,λ_=>rfl⟩
 .obtain⟨i,j⟩:=bp.1 d;exact(o i x j).1
 .rw[wP] at r T;obtain⟨a',L,rfl⟩:=qY.1 r;obtain⟨b',M,rfl⟩:=qY.1 T;exact(o (i+1) b' M).2 i a' rfl L
theorem KF{b:Type}{p:b->Bool}:∀{l:List b} {x:b},x∈l.takeWhile p->p x=true:=by
 intro l;induction l with
 | nil=>intro x h;cases h
 | cons a r c =>
   intro x h;rw[Is] at h;split at h
   .rename_i d;rcases fP.1 h with rfl|h
    .exact d
    .exact c h
   .cases h
section
variable {α:Type} (key:α->Tx)
def oE(l:List α)(x:α):List α:=l.takeWhile (λy=>iu (key y) (key x))++[x]++l.dropWhile (λy=>iu (key y) (key x))
def dx(l:List α)(p:Tx):Nat:=(l.takeWhile λy=>iu (key y) p).length
def wK(l:List α):Prop:=(l.map key).Pairwise λx y=>iu x y=true
theorem uq(l:List α)(p:Tx):dx key l p<=l.length:=by
 unfold dx;have:=congrArg List.length (Ii (p:=λy:α=>iu (key y) p) (l:=l));rw[fQ] at this;omega
theorem yy(l:List α)(x:α):l.take (dx key l<|key x)=l.takeWhile (λy=>iu (key y) (key x))/\l.drop (dx key l<|key x)=l.dropWhile (λy=>iu (key y) (key x)):=by
 have e:=Ii (p:=λy:α=>iu (key y) (key x)) (l:=l);refine⟨?_,?_⟩
 .unfold dx
  conv=>lhs;rw[<-e]
  rw[F1];rw[e]
 .unfold dx
  conv=>lhs;rw[<-e]
  rw[F0];rw[e]
theorem KG(l:List α)(x:α)(a:l.length<=1000000):E4 l ((dx key l (key x):Nat):Int) [x]=some (oE key l x):=by
 have b:=uq key l (key x);unfold E4 oE;rw[show inside 0 ((dx key l (key x):Nat):Int) (len l)=true from aR (by decide) (by omega) (by unfold len;omega),bD (by simp only[dd,eB];omega)];rw[qZ,(yy key l x).1,(yy key l x).2];rfl
theorem KH{S R:Type}{f:S->Option (S⊕R)}(l:List α)(p:Tx)(z:l.length<=1000000)(g:Int->S)(c:Nat->R)(d:R)
  (t:∀(i:Nat) (y:α),l[i]?=some y->f (g (i:Int))=some (if iu (key y) p=true then .inl (g ((i+1:Nat):Int)) else .inr (c i))) (u:f (g (l.length:Int))=some (.inr d)) :
  Loop f (g 0)=some (if dx key l p<l.length then c (dx key l p) else d):=by
 have m:∀k:Nat,k<=l.length->(∀(j:Nat) (y:α),j<k->l[j]?=some y->iu (key y) p=true)->(∀y,l[k]?=some y->iu (key y) p=false)->dx key l p=k:=by
  intro k n o q;have e:l.takeWhile (λy=>iu (key y) p)=l.take k:=by
   clear t u
   revert k
   induction l with
   | nil=>intro k n _ _;simp
   | cons a r A =>
     intro k n o q;cases k with
     | zero=>rw[Is,q a rfl];rfl
     | succ k =>
       rw[Is,o 0 a (by omega) rfl,aQ rfl,V3,A (by simp at z;omega) k (by simp at n;omega) (λj y v b=>o (j+1) y (by omega) b) λy b=>q y b]
  unfold dx;rw[e,fB];omega
 rcases ko (f:=f) l g (λ_ y=>!iu (key y) p) (λi _=>c i) d (by omega) (λi y b w D=>by
  rw[t i y b];cases iu (key y) p<;>rfl) u with ⟨i,x,hx,B,v,h⟩|⟨C,h⟩
 .have w:=aD hx;have:=m i (by omega) (λj y s b=>by simpa using v j y s b) (λy b=>by
   rw[hx] at b;obtain rfl:=aI b;simpa using B)
  rw[h,this,aQ w]
 .have:=m l.length (cg _) (λj y _ b=>by simpa using C j y b) (λy b=>by rw[Om<|cg _] at b;cases b);rw[h,this,aM (by omega)]
theorem FD(l:List α)(x:α):(oE key l x).Perm (x::l):=by
 unfold oE;have e:=Ii (p:=λy:α=>iu (key y) (key x)) (l:=l);have h:(l.takeWhile (λy=>iu (key y) (key x))++[x]++l.dropWhile λy=>iu (key y) (key x)).Perm (x::(l.takeWhile (λy=>iu (key y) (key x))++l.dropWhile λy=>iu (key y) (key x))):=by
  rw[kR];exact List.perm_middle
 rw[e] at h;exact h
theorem Ak{l:List α}{x y:α}:y∈oE key l x↔y=x\/y∈l:=by rw[(FD key l x).mem_iff,fP]
theorem KI(l:List α)(x:α):(oE key l x).length=l.length+1:=by rw[(FD key l x).length_eq,dd]
theorem wK.inj{l:List α}(h:wK key l){x y:α}(f:x∈l)(g:y∈l)(e:key x=key y):x=y:=by
 unfold wK at h;rw[QK] at h;obtain⟨i,a⟩:=bp.1 f;obtain⟨j,b⟩:=bp.1 g;have c:=aD a;have d:=aD b;rw[fN c] at a;rw[fN d] at b;obtain rfl:=aI a;obtain rfl:=aI b;rcases MW i j with q|q|q
 .have:=Bb.1 h i j c d q;rw[e,jv] at this;cases this
 .subst q;rfl
 .have:=Bb.1 h j i d c q;rw[e,jv] at this;cases this
theorem Ie{l:List α}(h:wK key l){x:α}(g:∀y∈l,key y≠key x):wK key (oE key l x):=by
 unfold wK at h⊢;rw[QK] at h⊢;unfold oE;have e:=Ii (p:=λy:α=>iu (key y) (key x)) (l:=l);have hA:∀y∈l.takeWhile (λy=>iu (key y) (key x)),iu (key y) (key x)=true:=λy c=>KF (p:=λy=>iu (key y) (key x)) c;have i:∀y∈l.dropWhile (λy=>iu (key y) (key x)),iu (key x) (key y)=true:=by
  clear e hA;induction l with
  | nil=>intro y c;cases c
  | cons a r j =>
    intro y c;rw[Im] at c;rw[FW] at h;split at c
    .exact j h.2 (λz k=>g z (nX _ k)) y c
    .rename_i m;have d:iu (key x) (key a)=true:=by
      rcases AR (key a) (key x) with q|q|q
      .exact absurd q m
      .exact absurd q (g a<|mo ..)
      .exact q
     rcases fP.1 c with rfl|c
     .exact d
     .exact AQ d (h.1 y c)
 rw[<-e] at h;rw[ZE] at h;obtain⟨n,o,s⟩:=h;rw[kR,ZE];refine⟨n,?_,λa d b f=>?_⟩
 .rw[QD,FW];exact⟨i,o⟩
 .rw[QD] at f;rcases fP.1 f with rfl|f
  .exact hA a d
  .exact s a d b f
def Ml(l:List α)(p:Tx):List α:=l.filter λx=>decide (key x≠p)
theorem Ig{l:List α}{p:Tx}{x:α}:x∈Ml key l p↔x∈l/\key x≠p:=by unfold Ml;rw[we,Io]
theorem P2(l:List α)(p:Tx):(Ml key l p).Sublist l:=List.filter_sublist
theorem abU{l:List α}(h:wK key l)(p:Tx):wK key (Ml key l p):=List.Pairwise.sublist ((P2 key l p).map key) h
theorem Tf{l:List α}{p:Tx}(h:∀x∈l,key x≠p):Ml key l p=l:=by
 unfold Ml;rw[Ew];intro x a;exact dI (h x a)
theorem adx{l:List α}(h:wK key l){i:Nat}{x:α}(b:l[i]?=some x):l.take i++l.drop (i+1)=Ml key l (key x):=by
 unfold wK at h;rw[QK] at h;have a:=aD b;have hd:l.drop i=x::l.drop (i+1):=by
  rw[wM a];rw[fN a] at b;rw[aI b]
 have d:l=l.take i++(x::l.drop (i+1)):=by rw[<-hd,uu]
 rw[d,ZE,FW] at h;obtain⟨_,⟨e,_⟩,f⟩:=h;unfold Ml
 conv=>rhs;rw[d]
 rw[Iv,ZR,aM (by simp)]
 congr 1
 .symm;rw[Ew];intro y c;exact dI (yf<|f y c x<|mo ..)
 .symm;rw[Ew];intro y c;exact dI λq=>yf (e y c) q.symm
end
abbrev P3:=Int×Tx×Int×Tx×ai
def ua(e:Int):P3:=(e,[],0,[],())
def GI(id:Tx):P3:=(0,id,0,[],())
def fH(s:aZ):List Nm:=s.2.2.1.flatMap Zm
structure W3 (s:aZ):Prop where
 ll:s.2.2.1.length<=40
 il:s.2.1.length<=40
 bl:s.1.length<=40
 ln:∀x∈s.2.2.1,pg x.2.2.1
 pW:∀x∈s.2.1,pg x.2.1
 bn:∀x∈s.1,pg x.2.1
 it:∀x∈s.2.1,DU x.2.2.2.2.1
theorem Ib.hd{s:aZ}(h:Ib s):W3 s:=⟨h.ll,h.il,h.bl,λx a=>(h.xl x a).2.2.1,λx a=>(h.xi x a).2.1,λx a=>(h.xb x a).2.1,λx a=>(h.xi x a).2.2.2⟩
theorem W3.abV{s:aZ}(h:W3 s):FewB (0,s.2.2.1,[],[],()):=⟨h.ll,h.ln,by simp,λx a=>(by cases a),by simp,λx a=>(by cases a)⟩
theorem FE{s:aZ}(h:W3 s):Small (fH s):=X7 3 _ h.abV
theorem ady{s:aZ}(h:W3 s):(fH s).length<=40:=gj (sH Pv _) h.ll
theorem rE(s:aZ)(h:W3 s):j7 (s,())=some (fH s,()):=by
 unfold j7;dsimp only;rw[Pw 3 _ h.abV,aa];rfl
theorem iS(s:aZ)(a:Tx)(h:W3 s):cY (s,a,())=some (cq (fH s) a):=by
 unfold cY;dsimp only;rw[rE s h,aa,Ho _ _ (FE h) (by have:=ady h;omega),aa]
theorem Y4(l:List Tx)(h:l.length<=4294967296):bA (l,())=some (l,()):=uR l h
theorem vd(l:List Tx)(h:l.length<=4294967296):eg (l,l,())=some (true,()):=by rw[Hl l l h,dI rfl]
theorem KJ(l:List Item)(h:DU l):fX (l,l,())=some (true,()):=J8 l (by have:=h.1;omega)
theorem ve(a:Tx):bt a a=true:=dI rfl
theorem A3{b:Type}{f:(Bool×Int×ai)×ai->Option (((Bool×Int×ai)×ai)⊕(Nat×(Bool×Int×ai)×ai))}(l:List b)(e:l.length<=1000000)
  (c:∀(i:Nat) (x:b),l[i]?=some x->x∈l->i<l.length->f ((false,(i:Int),()),())=some (.inl ((false,aF .i64 (i:Int) 1,()),()))) (d:f ((false,(l.length:Int),()),())=some (.inr (0,(false,(l.length:Int),()),()))) :
  Loop f ((false,(0:Int),()),())=some (0,(false,(l.length:Int),()),()) :=
 cR l.length (λj:Nat=>((false,(j:Int),()),())) (λj a=>by
  have hx:l[j]?=some l[j]:=fN a;rw[c j l[j] hx (ZP a) a,aL (by omega)]) d
theorem KK(l:List yj)(b:l.length<=1000000)(h:∀x∈l,pg x.2.1/\DU x.2.2.2.2.2.1):mc (l,l,())=some (true,()):=by
 unfold mc;dsimp only;rw[iZ,aA,ae,A3 (f:=jo (l,l,())) l b (λi x c a d=>by
  unfold jo;dsimp only;rw[ak d,ab,ao c,aa,aa];simp only[ve,ab,ae,aA,aw,aa,vd _ (h x a).1.small,KJ _ (h x a).2]) (by unfold jo;dsimp only;rw[ay,ae];rfl),aa]
 rfl
theorem GJ(l:List lY)(b:l.length<=1000000)(h:∀x∈l,pg x.2.1/\DU x.2.2.2.2.1):kL (l,l,())=some (true,()):=by
 unfold kL;dsimp only;rw[iZ,aA,ae,A3 (f:=iB (l,l,())) l b (λi x c a d=>by
  unfold iB;dsimp only;rw[ak d,ab,ao c,aa,aa];simp only[ve,ab,ae,aA,aw,aa,vd _ (h x a).1.small,KJ _ (h x a).2]) (by unfold iB;dsimp only;rw[ay,ae];rfl),aa]
 rfl
theorem GK(l:List ax)(a:l.length<=1000000)(h:∀x∈l,pg x.2.2.1):kM (l,l,())=some (true,()):=by
 unfold kM;dsimp only;rw[iZ,aA,ae,A3 (f:=iC (l,l,())) l a (λi x b c d=>by
  unfold iC;dsimp only;rw[ak d,ab,ao b,aa,aa];have eb:eqB x.2.2.2.2.2.2.1 x.2.2.2.2.2.2.1=true:=by unfold eqB;simp
  simp only[ve,iZ,eb,ab,ae,aA,aw,aa,vd _ (h x c).small]) (by unfold iC;dsimp only;rw[ay,ae];rfl),aa]
 rfl
theorem GL(l:List du)(a:l.length<=1000000):kN (l,l,())=some (true,()):=by
 unfold kN;dsimp only;rw[iZ,aA,ae,A3 (f:=iD (l,l,())) l a (λi x b d c=>by
  unfold iD;dsimp only;rw[ak c,ab,ao b,aa,aa];simp only[ve,iZ,ab,ae,aA,aw];rfl) (by unfold iD;dsimp only;rw[ay,ae];rfl),aa]
 rfl
theorem Tg(s:aZ)(h:Ib s)(b:s.2.2.2.1.length<=1000000):ew (s,s,())=some (true,()):=by
 unfold ew;dsimp only;rw[KK _ (by have:=h.bl;omega)<|λx a=>⟨(h.xb x a).2.1,(h.xb x a).2.2.2.2⟩,aa];dsimp only;rw[ab,GJ _ (by have:=h.il;omega) (λx a=>⟨(h.xi x a).2.1,(h.xi x a).2.2.2⟩),aa,aa,ab,GK _ (by have:=h.ll;omega) (λx a=>(h.xl x a).2.2.1),aa,aa,ab,vd _ (by omega),aa,aa,ab,GL _ h.ml,aa];rfl
theorem Mm{b:Tx}{f:List Tx}(h:(uk b f).2.1=0):(uk b f).1∈f:=by
 unfold uk at h⊢;split at h
 .cases h
 .rename_i c;rw[aM c]
  match f,h with
  | [a],_=>simp
theorem A4{l:List Nm}{a:Tx}(h:(cq l a).2.1=0):∃x∈l,x.1=(cq l a).1:=by
 unfold cq at h⊢;by_cases c:∃x∈l,x.1=a
 .rw[aQ c];exact c
 .rw[aM c] at h⊢;cases d:l.find? (λx=>decide (a∈x.2.1)) with
  | some x=>exact⟨x,Qy d,rfl⟩
  | none =>
    rw[d] at h;have:=Mm h;unfold PK at this⊢;rw[Iw] at this;obtain⟨x,e,b⟩:=this;refine⟨x,e,?_⟩;unfold PJ at b;split at b
    .rw[wO] at b;exact b.symm
    .cases b
theorem VG{l:List Nm}{a:Tx}{x:Nm}(e:x∈l)(f:a∈x.2.1)(d:∀y∈l,y.1≠a)(b:∀y∈l,a∈y.2.1->y=x):cq l a=(x.1,0,()):=by
 unfold cq;rw[aM<|by rintro⟨y,g,h⟩;exact d y g h];cases c:l.find? (λx=>decide (a∈x.2.1)) with
 | some y =>
   have i:=Qy c;have j:=QS c;rw[b y i<|gM j]
 | none =>
   rw[QH] at c;exact absurd f (by simpa using c x e)
theorem adz{l:List Nm}{a:List Tx}(h:qO l [] a=0)(b:∀x∈l,x.1≠[]):nx a=true/\∀x∈l,∀s∈x.2.1,s∉a:=by
 unfold qO at h;by_cases c:lX a=0
 rotate_left
 .rw[aQ c] at h;exact absurd h c
 rw[aM λq=>q c] at h;refine⟨?_,λx d s e f=>?_⟩
 .unfold lX at c;by_cases q:nx a=true
  .exact q
  .rw[aM q] at c;cases c
 .have g:JX l a (DG l [])=true:=by
   rw[E7];obtain⟨i,k⟩:=bp.1 d;refine⟨i,x,k,?_⟩;unfold X6;have m:DG l []=-1:=JU λj y n=>cJ (b y<|dY n);rw[m,dv,Io,FZ];exact⟨by omega,s,e,dI f⟩
  rw[aQ g] at h;cases h
theorem Th{c d:Type}{l m:List c}(h:l.Sublist m)(g:c->List d):(l.flatMap g).Sublist (m.flatMap g):=by
 induction h with
 | slnil=>exact List.Sublist.refl _
 | cons a _ b=>rw[FX];exact b.trans (Zs _ _)
 | cons_cons a _ b=>rw[FX,FX];exact(List.Sublist.refl _).append b
theorem Aj.upL{s:aZ}(h:Aj s):wK (·.1) s.2.2.1:=by
 have:=h.l.ids;unfold SI at this;simpa [wK] using this
theorem yz{s:aZ}{y:Nm}(h:y∈fH s):∃x∈s.2.2.1,y=(x.1,x.2.2.1,()):=by
 unfold fH at h;rw[Iw] at h;obtain⟨x,b,a⟩:=h;unfold Zm at a;split at a
 .rw[wO] at a;exact⟨x,b,a⟩
 .cases a
theorem pr:¬CA []:=λh=>by have:=h.2;cases this
def qy:Tx:=[102,114,101,115,104,45,110,97,109,101]
structure BkS (s:aZ):Prop where
 il:∀x∈s.2.1,x.1.length<=1048576/\x.2.2.1.length<=1048576
 bl:∀x∈s.1,x.1.length<=1048576/\x.2.2.1.length<=1048576/\x.2.2.2.1.length<=1048576
 dg:∀x∈s.2.2.1,x.2.2.2.1.length<=1048576
theorem abv.bd{s:aZ}(h:abv s)(k:BkS s):Ib s where
 ll:=h.base.ll
 il:=h.base.il
 bl:=h.base.bl
 xl:=λx a=>⟨by have:=h.ids x a;omega,by have:=h.ids x a;omega,h.base.ln x a,k.dg x a⟩
 xi:=λx a=>⟨(k.il x a).1,h.base.pW x a,(k.il x a).2,(h.base.im x a).2⟩
 xb:=λx a=>⟨(k.bl x a).1,h.base.bn x a,(k.bl x a).2.1,(k.bl x a).2.2,(h.base.bm x a).2⟩
 dl:=h.aiw
 ml:=by have:=h.mts;omega
end Go.Ge
namespace Go.Ge
abbrev P4:Ty:=.pair .str (.pair .str<|.pair .str .unit)
abbrev Od:Ty:=.pair .str (.pair (.slice .str)<|.pair .str<|.pair .str<|.pair .str<|.pair (.slice P4) .unit)
abbrev A5:Ty:=.pair .str (.pair (.slice .str)<|.pair .str<|.pair .str<|.pair (.slice P4) .unit)
abbrev A6:Ty:=.pair .str (.pair .str<|.pair (.slice .str)<|.pair .str<|.pair (.int .i64)<|.pair (.int .i64)<|.pair .bool .unit)
abbrev W4:Ty:=.pair .str (.pair (.int .i64) .unit)
abbrev adA:Ty:=.pair (.slice Od) (.pair (.slice A5)<|.pair (.slice A6)<|.pair (.slice .str)<|.pair (.slice W4) .unit)
theorem KL{b:Type}{f:b->Nat}{l:List b}{x:b}(h:x∈l):f x<=s7 f l:=by
 induction l with
 | nil=>cases h
 | cons a r c =>
   unfold s7;rcases fP.1 h with rfl|h
   .omega
   .have:=c h;omega
theorem aeZ{s:aZ}(h:adA.bulk s<=1048576):BkS s:=by
 obtain⟨b,c,d,i,j,u⟩:=s;have k:(s7 Od.bulk b+1)+((s7 A5.bulk c+1)+((s7 A6.bulk d+1)+((s7 Ty.str.bulk i+1)+((s7 W4.bulk j+1)+0))))<=1048576:=h;refine⟨λx a=>?_,λx a=>?_,λx a=>?_⟩
 .have e:A5.bulk x<=s7 A5.bulk c:=KL (f:=A5.bulk) a;have g:A5.bulk x=(x.1.length+1)+((s7 Ty.str.bulk x.2.1+1)+((x.2.2.1.length+1)+((x.2.2.2.1.length+1)+((s7 P4.bulk x.2.2.2.2.1+1)+0)))):=rfl;omega
 .have e:Od.bulk x<=s7 Od.bulk b:=KL (f:=Od.bulk) a;have g:Od.bulk x=(x.1.length+1)+((s7 Ty.str.bulk x.2.1+1)+((x.2.2.1.length+1)+((x.2.2.2.1.length+1)+((x.2.2.2.2.1.length+1)+((s7 P4.bulk x.2.2.2.2.2.1+1)+0))))):=rfl;omega
 .have e:A6.bulk x<=s7 A6.bulk d:=KL (f:=A6.bulk) a;have g:A6.bulk x=(x.1.length+1)+((x.2.1.length+1)+((s7 Ty.str.bulk x.2.2.1+1)+((x.2.2.2.1.length+1)+(1+(1+(1+0)))))):=rfl;omega
variable [Lp]
theorem wK.idx{α:Type}{a:α->Tx}{l:List α}(h:wK a l){i j:Nat}{x y:α}(f:l[i]?=some x)(g:l[j]?=some y)(e:a x=a y):i=j:=by
 unfold wK at h;rw[QK] at h;obtain⟨b,rfl⟩:=fq.1 f;obtain⟨c,rfl⟩:=fq.1 g;have d:=Bb.1 h;rcases MW i j with q|q|q
 .have:=d i j b c q;rw[e,jv] at this;cases this
 .exact q
 .have:=d j i c b q;rw[e,jv] at this;cases this
theorem D2{a:List ax}(d:wK (·.1) a){i:Nat}{x:ax}(b:a[i]?=some x):BQ a x.1=some i:=by
 obtain⟨j,c⟩:=P0.2 ⟨x,dY b,rfl⟩;obtain⟨y,e,f⟩:=Ai c;rw[c,d.idx e b f]
theorem ae0{a:List ax}{id:Tx}(h:∀x∈a,x.1≠id):BQ a id=none:=D1 λi x b=>cJ (h x<|dY b)
theorem vf{ls:List ax}{id:Tx}(h:∀x∈ls,x.1≠id)(n:Nat)(a:List ax):yx ls n id a=([],3):=by
 unfold yx;rw[ae0 h]
theorem D3{a:List ax}(c:wK (·.1) a){x:ax}(d:x∈a)(b:List ax):yx a 0 x.1 b=([],5):=by
 obtain⟨i,e⟩:=bp.1 d;unfold yx;rw[D2 c e]
theorem lq{ls:List ax}(c:wK (·.1) ls){x:ax}(d:x∈ls)(n:Nat)(a:List ax):yx ls (n+1) x.1 a=if x.2.1=[] then(a++[x],0) else yx ls n x.2.1 (a++[x]):=by
 obtain⟨i,b⟩:=bp.1 d
 conv=>lhs;unfold yx
 rw[D2 c b];dsimp only;rw[b]
theorem adB{ls c:List ax}(g:wK (·.1) ls)(d:wK (·.1) c){q:Tx}(h:∀x:ax,x.1≠q->(x∈c↔x∈ls))(i:∀x∈ls,x.2.1=[]\/x.2.1≠q) :
  ∀(n:Nat) (id:Tx) (acc:List ax),id≠q->yx c n id acc=yx ls n id acc:=by
 intro n;induction n with
 | zero =>
   intro id acc b;by_cases hx:∃x∈ls,x.1=id
   .obtain⟨x,hx,rfl⟩:=hx;rw[D3 g hx,D3 d ((h x b).2 hx)]
   .rw[vf<|λx a e=>hx ⟨x,a,e⟩,vf λx a e=>hx ⟨x,(h x<|by rw[e];exact b).1 a,e⟩]
 | succ n j =>
   intro id acc b;by_cases hx:∃x∈ls,x.1=id
   .obtain⟨x,hx,rfl⟩:=hx;rw[lq g hx,lq d ((h x b).2 hx)];by_cases f:x.2.1=[]
    .rw[aQ f,aQ f]
    .rw[aM f,aM f,j _ _ ((i x hx).resolve_left f)]
   .rw[vf<|λx a e=>hx ⟨x,a,e⟩,vf λx a e=>hx ⟨x,(h x<|by rw[e];exact b).1 a,e⟩]
theorem FF{ls:List ax}(d:wK (·.1) ls):∀(n:Nat) (id:Tx) (acc:List ax),(yx ls n id acc).2=0 ->
  ∃c,(yx ls n id acc).1=acc++c/\∀(m:Nat) (a:List ax),c.length<=m->yx ls m id a=(a++c,0):=by
 intro n;induction n with
 | zero =>
   intro id acc h;by_cases hx:∃x∈ls,x.1=id
   .obtain⟨x,hx,rfl⟩:=hx;rw[D3 d hx] at h;cases h
   .rw[vf λx b e=>hx ⟨x,b,e⟩] at h;cases h
 | succ n i =>
   intro id acc h;by_cases hx:∃x∈ls,x.1=id
   .obtain⟨x,hx,rfl⟩:=hx;rw[lq d hx] at h⊢;by_cases f:x.2.1=[]
    .rw[aQ f] at h⊢;refine⟨[x],rfl,λm a g=>?_⟩;cases m with
     | zero=>cases g
     | succ m=>rw[lq d hx,aQ f]
    .rw[aM f] at h⊢;obtain⟨c,j,k⟩:=i _ _ h;refine⟨x::c,by rw[j];simp,λm a g=>?_⟩;cases m with
     | zero=>cases g
     | succ m =>
       rw[lq d hx,aM f,k m _ (by simpa using g)];simp
   .rw[vf λx b e=>hx ⟨x,b,e⟩] at h;cases h
theorem Oe{a:List ax}(c:wK (·.1) a){x:ax}(d:x∈a)(h:(bc a x.1).2=0):x.2.1=[]\/∃y∈a,y.1=x.2.1:=by
 unfold bc at h;rw[lq c d] at h;by_cases b:x.2.1=[]
 .exact .inl b
 .rw[aM b] at h;right;apply Ev;intro q;rw[vf λy f e=>q ⟨y,f,e⟩] at h;cases h
def Ti(ls:List ax)(a:List Tx)(x:ax)(d:Tx):Prop:=∃i:Nat,ls[i]?=some x/\a[i]?=some d
theorem W5{a:List ax}{b:List Tx}{x:ax}{d:Tx}:Ti a b x d↔(x,d)∈a.zip b:=by
 unfold Ti;rw[bp];constructor
 .rintro⟨i,c,e⟩;exact⟨i,by rw[Zt];exact⟨c,e⟩⟩
 .rintro⟨i,h⟩;rw[Zt] at h;exact⟨i,h.1,h.2⟩
theorem A7{a c:List ax}{b f:List Tx}{x y:ax}{d e:Tx}(h:a.length=b.length):Ti (a++[x]++c) (b++[d]++f) y e↔(y=x/\e=d)\/Ti (a++c) (b++f) y e:=by
 rw[W5,W5,kR,kR,List.zip_append h,List.zip_append h];simp only[QD,List.zip_cons_cons,pO,fP,CP];constructor
 .rintro(q|q|q)
  .exact .inr (.inl q)
  .exact .inl q
  .exact .inr (.inr q)
 .rintro(q|q|q)
  .exact .inr (.inl q)
  .exact .inl q
  .exact .inr (.inr q)
theorem vW{ls:List ax}{a:List Tx}(e:a.length=ls.length){x:ax}(c:x∈ls):∃d,Ti ls a x d:=by
 obtain⟨i,b⟩:=bp.1 c;have:=aD b;exact⟨a[i],i,b,fN (by omega)⟩
theorem Ti.mem{ls:List ax}{a:List Tx}{x:ax}{d:Tx}(h:Ti ls a x d):x∈ls:=by
 obtain⟨i,b,_⟩:=h;exact dY b
theorem vX{a:List ax}{b:List Tx}(c:wK (·.1) a){x:ax}{d:Tx}(h:Ti a b x d):rD a b x.1=d:=by
 obtain⟨i,e,f⟩:=h;unfold rD;rw[D2 c e];dsimp only;rw[f];rfl
theorem FG{ls a:List ax}{i b:List Tx}(o:wK (·.1) ls)(f:wK (·.1) a)(p:i.length=ls.length)(j:b.length=a.length){q:Tx}
  (h:∀(x:ax) (d:Tx),x.1≠q->(Ti a b x d↔Ti ls i x d)) (s:∀x∈ls,x.2.1=[]\/x.2.1≠q) (t:(∀x∈ls,x.1≠q)\/(∀x∈a,x.1≠q)) {id:Tx} (l:id≠q) :
  bc a id=bc ls id/\cT a b id=cT ls i id:=by
 have u:∀x:ax,x.1≠q->(x∈a↔x∈ls):=λx c=>by
  constructor
  .intro k;obtain⟨d,e⟩:=vW j k;exact((h x d c).1 e).mem
  .intro k;obtain⟨d,e⟩:=vW p k;exact((h x d c).2 e).mem
 have m:bc a id=bc ls id:=adB o f u s 16 id [] l;refine⟨m,?_⟩;unfold cT;rw[m];have:((bc ls id).1.reverse.map λx=>rD a b x.1)=((bc ls id).1.reverse.map λx=>rD ls i x.1):=by
  apply Il;intro x c;rw[QO] at c;have r:=(rC (ls:=ls) (id:=id)).1 x c;have v:=(rC (ls:=a) (id:=id)).1 x (by rw[m];exact c);have n:x.1≠q:=t.elim (λg=>g x r) (λg=>g x v);obtain⟨d,e⟩:=vW p r;rw[vX o e,vX f ((h x d n).2 e)]
 rw[this]
theorem VH:∀(r:List Tx) (t:List Nd),Valid t->(qL r t).2=0->Valid (qL r t).1:=by
 intro r;induction r with
 | nil=>intro t h _;exact h
 | cons s r b =>
   intro t h a;unfold qL at a⊢;by_cases c:(eI t s).2=0
   .rw[aQ c] at a⊢;rcases xD h s with ⟨_,v,_⟩|⟨v,_⟩
    .exact b _ v a
    .exact absurd c v
   .rw[aM c] at a⊢;exact absurd a c
theorem KM{ls:List ax}{a:List Tx}{id:Tx}(h:(cT ls a id).2=0):(bc ls id).2=0/\cT ls a id=qL ((bc ls id).1.reverse.map λx=>rD ls a x.1) []:=by
 unfold cT at h⊢;by_cases c:(bc ls id).2=0
 .rw[aQ c];exact⟨c,rfl⟩
 .rw[aM c] at h;exact absurd h c
theorem FH:Valid []:=yp Vs.1
theorem td.more{a b:List ax}{f g:List Tx}{x:ax}{d:Tx}(p:a.length=f.length)(L:wK (·.1) (a++b))(l:wK (·.1) (a++[x]++b))(r:td (a++b) (f++g))
  (h:∀y∈a++b,y.1≠x.1) (M:x.1≠[]) (N:x.2.1≠x.1) (s:x.2.1=[]\/((bc (a++b) x.2.1).2=0/\(bc (a++b) x.2.1).1.length<16))
  (t:x.2.2.2.2.2.2.1=true/\x.2.2.2.2.2.1=0/\x.2.2.2.2.1=(d.length:Int)/\x.2.2.2.1=j0 d/\l4 d)
  (m:(eI (if x.2.1=[] then [] else(cT (a++b) (f++g) x.2.1).1) d).2=0):td (a++[x]++b) (f++[d]++g):=by
 have hlen:(f++g).length=(a++b).length:=r.same;have n:(f++[d]++g).length=(a++[x]++b).length:=by
  simp only[fQ,Lm] at hlen⊢;omega
 have u:∀(y:ax) (e:Tx),y.1≠x.1->(Ti (a++[x]++b) (f++[d]++g) y e↔Ti (a++b) (f++g) y e):=λy e k=>by
  rw[A7 p];constructor
  .rintro(q|q)
   .exact absurd (congrArg (·.1) q.1) k
   .exact q
  .exact .inr
 have O:∀y∈a++b,y.2.1≠x.1:=λy k e=>by
  rcases Oe L k (r.chain y k) with q|⟨z,H,q⟩
  .exact M (e.symm.trans q)
  .exact h z H (q.trans e)
 have v:x∈a++[x]++b:=by simp
 have w:∀y∈a++[x]++b,y=x\/y∈a++b:=λy k=>by
  simp only[pO,wO] at k⊢;rcases k with (q|q)|q
  .exact .inr (.inl q)
  .exact .inl q
  .exact .inr (.inr q)
 have o:∀{id:Tx},id≠x.1->bc (a++[x]++b) id=bc (a++b) id/\cT (a++[x]++b) (f++[d]++g) id=cT (a++b) (f++g) id :=
  λ{id} P=>FG L l hlen n u (λy k=>.inr (O y k)) (.inl h) P
 have A:rD (a++[x]++b) (f++[d]++g) x.1=d:=vX l ((A7 p).2<|.inl ⟨rfl,rfl⟩);have key:(bc (a++[x]++b) x.1).2=0/\(cT (a++[x]++b) (f++[d]++g) x.1).2=0:=by
  by_cases B:x.2.1=[]
  .have Q:bc (a++[x]++b) x.1=([x],0):=by
    unfold bc;rw[lq l v,aQ B];rfl
   rw[aQ B] at m;unfold cT;rw[Q,aQ rfl];refine⟨rfl,?_⟩;show(qL [rD (a++[x]++b) (f++[d]++g) x.1] []).2=0
   rw[A];unfold qL;rw[aQ m];rfl
  .rcases s with q|⟨C,V⟩
   .exact absurd q B
   rw[aM B] at m;obtain⟨T,W⟩:=o N;obtain⟨y,k,R⟩:∃y∈a++b,y.1=x.2.1:=by
    apply Ev;intro q;unfold bc at C;rw[vf λy k e=>q ⟨y,k,e⟩] at C;cases C
   have S:(cT (a++b) (f++g) x.2.1).2=0:=by
    obtain⟨i,I⟩:=bp.1 k;have:=aD I;rw[<-R];exact(r.each i y (f++g)[i] I<|fN<|by omega).2.2.2.2.2
   obtain⟨t1,J⟩:=KM S;obtain⟨c,X,Y⟩:=FF l 16 x.2.1 [] (by have:=T;unfold bc at this C;rw[this];exact C);have D:(bc (a++b) x.2.1).1=c:=by rw[<-T];exact X
   rw[D] at V J;have Q:bc (a++[x]++b) x.1=(x::c,0):=by
    unfold bc;rw[lq l v,aM B,Y 15 _ (by omega)];rfl
   unfold cT;rw[Q,aQ rfl];refine⟨rfl,?_⟩;rw[W.symm] at J m S;rw[show(x::c,(0:Int)).1=x::c from rfl,List.reverse_cons,xO,List.map_singleton,A];have E:(c.reverse.map λz=>rD (a++[x]++b) (f++[d]++g) z.1)=(c.reverse.map λz=>rD (a++b) (f++g) z.1):=by
    apply Il;intro z H;rw[QO] at H;have F:z∈a++b:=(rC (ls:=a++b) (id:=x.2.1)).1 z (by rw[D];exact H);obtain⟨e,K⟩:=vW hlen F;rw[vX L K,vX l ((u z e<|h z F).2 K)]
   rw[E,N5 _ d [] (cT (a++[x]++b) (f++[d]++g) x.2.1).1 (IB (by rw[J])<|by rw[<-J];exact S),aQ m]
 refine⟨n,λy k=>?_,λi y e I K=>?_⟩
 .rcases w y k with rfl|G
  .exact key.1
  .rw[(o<|h y G).1];exact r.chain y G
 .have Z:Ti (a++[x]++b) (f++[d]++g) y e:=⟨i,I,K⟩;rcases(A7 p).1 Z with ⟨rfl,rfl⟩|⟨j,U,g2⟩
  .exact⟨t.1,t.2.1,t.2.2.1,t.2.2.2.1,t.2.2.2.2,key.2⟩
  .obtain⟨a1,a2,a3,a4,a5,a6⟩:=r.each j y e U g2;exact⟨a1,a2,a3,a4,a5,by rw[(o<|h y<|dY U).2];exact a6⟩
theorem td.less{c f:List ax}{l n:List Tx}{x:ax}{d:Tx}(u:c.length=l.length)(B:wK (·.1) (c++f))(o:wK (·.1) (c++[x]++f))(v:td (c++[x]++f) (l++[d]++n))
  (C:∀y∈c++[x]++f,y.2.1≠x.1):td (c++f) (l++n):=by
 have h:=v.same;have hlen:(l++n).length=(c++f).length:=by
  simp only[fQ,Lm] at h⊢;omega
 have g:∀y∈c++f,y.1≠x.1:=λy k e=>by
  unfold wK at o;have w:(c++[x]++f).Perm (x::(c++f)):=by
   rw[kR];exact List.perm_middle
  have p:((c++[x]++f).map (·.1)).Nodup:=o.imp λ{a b} q=>yf q;rw[(w.map _).nodup_iff,sX,zn] at p;exact p.1 (pQ.2 ⟨y,k,e⟩)
 have r:∀(y:ax) (e:Tx),y.1≠x.1->(Ti (c++f) (l++n) y e↔Ti (c++[x]++f) (l++[d]++n) y e):=λy e k=>by
  rw[A7 u];constructor
  .exact .inr
  .rintro(q|q)
   .exact absurd (congrArg (·.1) q.1) k
   .exact q
 have m:∀{id:Tx},id≠x.1->bc (c++f) id=bc (c++[x]++f) id/\cT (c++f) (l++n) id=cT (c++[x]++f) (l++[d]++n) id :=
  λ{id} z=>FG o B h hlen r (λy k=>.inr (C y k)) (.inr g) z
 have s:∀y∈c++f,y∈c++[x]++f:=λy k=>by
  simp only[pO,wO] at k⊢;rcases k with q|q
  .exact .inl (.inl q)
  .exact .inr q
 refine⟨hlen,λy k=>?_,λi y e A D=>?_⟩
 .rw[(m<|g y k).1];exact v.chain y (s y k)
 .have t:=dY A;obtain⟨j,E,F⟩:=(r y e<|g y t).1 ⟨i,A,D⟩;obtain⟨G,H,I,J,K,L⟩:=v.each j y e E F;exact⟨G,H,I,J,K,by rw[(m<|g y t).2];exact L⟩
theorem abW:Bj (lL 1024)=([],0):=by
 unfold Bj;rw[VA]
theorem Y5:l4 (lL 1024):=by
 unfold l4;rw[abW];exact⟨rfl,rfl⟩
theorem W6{t:List Nd}(h:Valid t):eI t (lL 1024)=(t,0):=by
 unfold eI;rw[abW,aQ rfl];unfold kO;rw[aQ h];rfl
theorem wB.boxes{l:List yj}(b:l.length<=32)(c:∀x∈l,OkB x)(d:wK (·.1) l)(e:(l.flatMap (·.2.1)).Nodup):wB 1 (0,[],[],l,()) :=
 ⟨b,by show l.length+0+0=l.length;omega,λx a=>(by cases a),λx a=>(by cases a),c,by unfold SI;simpa [wK] using d,by unfold SJ;simpa using e⟩
theorem wB.lays{l:List ax}(b:l.length<=32)(c:∀x∈l,OkL x)(d:wK (·.1) l)(e:(l.flatMap (·.2.2.1)).Nodup):wB 3 (0,l,[],[],()) :=
 ⟨b,by show 0+0+l.length=l.length;omega,c,λx a=>(by cases a),λx a=>(by cases a),by unfold SI;simpa [wK] using d,by unfold SJ;simpa using e⟩
theorem Aj.agp{s:aZ}(h:Aj s):(s.2.2.1.flatMap (·.2.2.1)).Nodup:=by
 have:=h.l.nms;unfold SJ at this;simpa using this
theorem Aj.abV{s:aZ}(h:Aj s):s.2.2.1.length<=32:=h.l.few
def sR{a:Type}(l:List a)(k:Nat)(x:a):List a:=l.take k++[x]++l.drop k
theorem adC{a:Type}(l:List a)(k:Nat)(x:a)(b:k<=l.length)(c:l.length<=1000000):E4 l (k:Int) [x]=some (sR l k x):=by
 unfold E4 sR;rw[show inside 0 (k:Int) (len l)=true from aR (by decide) (by omega) (by unfold len;omega),bD (by simp only[dd,eB];omega),qZ];rfl
theorem Ih{b S:Type}{f:S->Option (S⊕(Nat×S))}(l:List b)(p:b->Bool)(a:Int×Int×ai->S)(k:l.length<=1000000)
  (c:∀(i:Nat) (y:b),l[i]?=some y->i<l.length->f (a (0,(i:Int),()))=some (if p y=true then .inr (1,a ((i:Int),(i:Int),())) else .inl (a (0,aF .i64 (i:Int) 1,()))))
  (d:f (a (0,(l.length:Int),()))=some (.inr (0,a (0,(l.length:Int),())))) :
  (∃(i:Nat) (y:b),l[i]?=some y/\p y=true/\Loop f (a (0,0,()))=some (1,a ((i:Int),(i:Int),())))\/((∀y∈l,p y=false)/\Loop f (a (0,0,()))=some (0,a (0,(l.length:Int),()))):=by
 rcases ko (f:=f) l (λi=>a (0,i,())) (λ_ y=>p y) (λi _=>(1,a ((i:Int),(i:Int),()))) (0,a (0,(l.length:Int),())) (by omega) (λi y hy hi e=>by rw[c i y hy hi,e]) d with ⟨i,y,hy,g,_,h⟩|⟨j,h⟩
 .exact .inl ⟨i,y,hy,g,h⟩
 .refine .inr ⟨λy hy=>?_,h⟩;obtain⟨i,hi⟩:=bp.1 hy;exact j i y hi
def sS(s:aZ)(x:ax)(d:Tx):aZ:=(s.1,(s.2.1,(oE (·.1) s.2.2.1 x,sR s.2.2.2.1 (dx (λy:ax=>y.1) s.2.2.1 x.1) d,s.2.2.2.2)))
def D4(s:aZ)(id:Tx):Bool:=s.2.2.1.any (λx=>decide (x.2.1=id))||s.2.1.any (λx=>decide (x.2.2.1=id))||s.1.any (λx=>decide (x.2.2.2.1=id))
theorem W7{a:Type}{l:List a}{p:a->Bool}{i:Nat}{y:a}(b:l[i]?=some y)(c:p y=true):l.any p=true:=FZ.2 ⟨y,dY b,c⟩
theorem abX{a:Type}{l:List a}{p:a->Bool}(h:∀y∈l,p y=false):l.any p=false:=by
 cases q:l.any p with
 | false=>rfl
 | true=>obtain⟨y,c,b⟩:=FZ.1 q;rw[h y c] at b;cases b
def cutAt{a:Type}(l:List a)(i:Nat):List a:=l.take i++l.drop (i+1)
theorem GM(a:List ax)(b:List Tx)(x:ax)(d:Tx)(g:b.length=a.length):∃(c f:List ax) (e r2:List Tx),c.length=e.length/\a=c++f/\b=e++r2/\c.length=dx (λy:ax=>y.1) a x.1 /\
  oE (λy:ax=>y.1) a x=c++[x]++f/\sR b (dx (λy:ax=>y.1) a x.1) d=e++[d]++r2:=by
 have h:=uq (λy:ax=>y.1) a x.1;refine⟨a.takeWhile<|λy=>iu y.1 x.1,a.dropWhile (λy=>iu y.1 x.1),b.take (dx (λy:ax=>y.1) a x.1),b.drop (dx (λy:ax=>y.1) a x.1),?_,(Ii).symm,(uu _ _).symm,rfl,rfl,rfl⟩;rw[fB,pb (by omega)];rfl
theorem Aj.more{s:aZ}(h:Aj s){x:ax}{d:Tx}(B:OkL x)(L:s.2.2.1.length<32)(m:∀y∈s.2.2.1,y.1≠x.1)(D:∀y∈s.2.2.1,∀n∈y.2.2.1,n∉x.2.2.1)
  (r:x.2.1=[]\/((bc s.2.2.1 x.2.1).2=0/\(bc s.2.2.1 x.2.1).1.length<16)) (M:x.2.2.2.2.2.2.1=true/\x.2.2.2.2.2.1=0/\x.2.2.2.2.1=(d.length:Int)/\x.2.2.2.1=j0 d/\l4 d)
  (E:(eI (if x.2.1=[] then [] else(cT s.2.2.1 s.2.2.2.1 x.2.1).1) d).2=0):Aj (sS s x d):=by
 obtain⟨T,U,o,H,V,u⟩:=s;have I:=h.upL;have C:=h.b;have hi:=h.i;have N:=h.l;have f:=h.lays;have F:=h.VF;have p:=h.tops;have hrefs:=h.refs;have t:=h.mts;have G:=h.W2;have v:=h.agp;unfold sS;dsimp only at *;have c:∀y:ax,y∈oE (λy:ax=>y.1) o x↔y=x\/y∈o:=λy=>Ak _;have g:wK (λy:ax=>y.1) (oE (λy:ax=>y.1) o x):=Ie _ I m;refine⟨C,hi,wB.lays ?_ ?_ g ?_,?_,F,?_,?_,?_,G⟩
 .rw[KI];omega
 .intro y e;rcases(c y).1 e with rfl|e
  .exact B
  .exact N.ll y e
 .have O:=(FD (λy:ax=>y.1) o x).flatMap_right (λy:ax=>y.2.2.1);rw[O.nodup_iff,FX,Br];refine⟨?_,v,λa P b C=>?_⟩
  .have:=B.nms;unfold nx at this;simp only[dv,kQ] at this;exact this.1.2
  .rw[Iw] at C;obtain⟨y,e,Q⟩:=C;rintro rfl;exact D y e a Q P
 .obtain⟨W,X,Y,Z,R,w,J,_,K,S⟩:=GM o H x d f.same;show td (oE (λy:ax=>y.1) o x) (sR H (dx (λy:ax=>y.1) o x.1) d)
  rw[K] at g;rw[K,S];have j:=B.id;refine td.more R (by rw[<-w];exact I) g (by rw[<-w,<-J];exact f) (by rw[<-w];exact m) (λq=>?_) ?_ (by rw[<-w];exact r) M (by rw[<-w,<-J];exact E)
  .rw[q] at j;exact pr j
  .rcases B.par with q|q
   .rw[q];intro k;rw[<-k] at j;exact pr j
   .exact q.2
 .intro y e;rcases p y e with q|⟨z,A,q⟩
  .exact .inl q
  .exact .inr ⟨z,(c z).2 (.inr A),q⟩
 .intro y e;obtain⟨z,A,q⟩:=(hrefs y e).2;exact⟨(hrefs y e).1,z,(c z).2 (.inr A),q⟩
 .intro y e;obtain⟨⟨z,A,q⟩,k⟩:=t y e;exact⟨⟨z,(c z).2 (.inr A),q⟩,k⟩
theorem Ib.more{s:aZ}(h:Ib s){x:ax}{d:Tx}(c:BdL x)(f:s.2.2.1.length<32)(g:d.length<=8192):Ib (sS s x d):=by
 refine⟨?_,h.il,h.bl,λy b=>?_,h.xi,h.xb,λe a=>?_,h.ml⟩
 .show(oE (λy:ax=>y.1) s.2.2.1 x).length<=40
  rw[KI];omega
 .rcases(Ak _).1 b with rfl|b
  .exact c
  .exact h.xl y b
 .have a:e∈sR s.2.2.2.1 (dx (λy:ax=>y.1) s.2.2.1 x.1) d:=a;unfold sR at a;rw[pO,pO,wO] at a;rcases a with (a|rfl)|a
  .exact h.dl e (CO a)
  .exact g
  .exact h.dl e (FU a)
theorem Aj.KN{s:aZ}(h:Aj s){y:ax}(a:y∈s.2.2.1):(bc s.2.2.1 y.1).2=0/\(cT s.2.2.1 s.2.2.2.1 y.1).2=0:=by
 refine⟨h.lays.chain y a,?_⟩;obtain⟨d,i,b,c⟩:=vW h.lays.same a;exact(h.lays.each i y d b c).2.2.2.2.2
theorem KO{ls:List ax}{a:List Tx}{id:Tx}(h:(cT ls a id).2=0):Valid (cT ls a id).1:=by
 obtain⟨_,t⟩:=KM h;rw[t] at h⊢;exact VH _ _ FH h
theorem Of{a:Type}(l:List a)(i:Nat)(x:a)(h:l[i]?=some x):l=l.take i++[x]++l.drop (i+1):=by
 obtain⟨b,rfl⟩:=fq.1 h;rw[kR,QD,<-wM b,uu]
theorem Aj.less{s:aZ}(h:Aj s){i:Nat}{x:ax}(v:s.2.2.1[i]?=some x)(I:∀y∈s.2.2.1,y.2.1≠x.1)(J:∀y∈s.2.1,y.2.2.1≠x.1)(K:∀y∈s.1,y.2.2.2.1≠x.1)(w:∀y∈s.2.2.2.2.1,y.1≠x.1) :
  Aj (s.1,s.2.1,cutAt s.2.2.1 i,cutAt s.2.2.2.1 i,s.2.2.2.2):=by
 obtain⟨O,P,j,t,Q,u⟩:=s;have A:=h.upL;have B:=h.b;have C:=h.i;have L:=h.l;have c:=h.lays;have D:=h.VF;have m:=h.tops;have hrefs:=h.refs;have n:=h.mts;have E:=h.W2;have o:=h.agp;have F:=h.abV;dsimp only at *;have M:=aD v;have e:cutAt j i=Ml (λy:ax=>y.1) j x.1:=adx _ A v;have f:(cutAt j i).Sublist j:=by rw[e];exact P2 _ _ _
 have g:∀y:ax,y.1≠x.1->y∈j->y∈cutAt j i:=λy a w=>by rw[e];exact(Ig _).2 ⟨w,a⟩
 have p:wK (λy:ax=>y.1) (cutAt j i):=by rw[e];exact abU _ A _
 refine⟨B,C,wB.lays (gj f.length_le F) (λy a=>L.ll y (f.subset a)) p (List.Nodup.sublist (Th f _) o),?_,D,?_,?_,?_,E⟩
 .have G:=c.same;have hd:t[i]?=some (t[i]'(by omega)):=fN (by omega);have H:=Of j i x v;have N:=Of t i _ hd;refine td.less (x:=x) (d:=t[i]'(by omega)) (by rw[fB,fB];omega) p (by rw[<-H];exact A) (by rw[<-H,<-N];exact c) (by rw[<-H];exact I)
 .intro y a;rcases m y a with q|⟨z,r,q⟩
  .exact .inl q
  .exact .inr ⟨z,g z (λk=>J y a (q.symm.trans k)) r,q⟩
 .intro y a;obtain⟨z,r,q⟩:=(hrefs y a).2;exact⟨(hrefs y a).1,z,g z (λk=>K y a (q.symm.trans k)) r,q⟩
 .intro y a;obtain⟨⟨z,r,q⟩,k⟩:=n y a;exact⟨⟨z,g z (λk=>w y a (q.symm.trans k)) r,q⟩,k⟩
theorem Og{b:Type}(l:List b)(i:Nat):∀x∈cutAt l i,x∈l:=λx a=>by
 unfold cutAt at a;rw[pO] at a;exact a.elim CO FU
theorem Y6{a:Type}(l:List a)(i:Nat):(cutAt l i).length<=l.length:=by
 unfold cutAt;rw[fQ,fB,kx];omega
theorem abY{s:aZ}{id:Tx}(h:D4 s id=false):(∀y∈s.2.2.1,y.2.1≠id)/\(∀y∈s.2.1,y.2.2.1≠id)/\(∀y∈s.1,y.2.2.2.1≠id):=by
 unfold D4 at h;simp only[vl] at h;have key:∀{α:Type} {l:List α} {g:α->Tx},l.any (λx=>decide (g x=id))=false->∀y∈l,g y≠id:=λ{α l g} q y hy e=>by
  have:=W7 (p:=λx=>decide (g x=id)) (l:=l) (bp.1 hy).choose_spec (dI e);rw[this] at q;cases q
 exact⟨key h.1.1,key h.1.2,key h.2⟩
theorem W9{a:Type}(l:List a)(i:Nat)(b:i<l.length)(c:l.length<=1000000):UQ l (i:Int) (aF .i64 (i:Int) 1)=some (cutAt l i):=by
 unfold UQ cutAt;rw[aL<|by omega,aR (by omega) (by omega) (by unfold len;omega),eC,qZ,qZ]
set_option maxRecDepth 100000
abbrev dc:=((List<|Sb×(List Sb)×Sb×Sb×Sb×(List<|Sb×Sb×Sb×ai)×ai)×(List<|Sb×(List Sb)×Sb×Sb×(List<|Sb×Sb×Sb×ai)×ai)×(List<|Sb×Sb×(List Sb)×Sb×Int×Int×Bool×ai)×(List Sb)×(List<|Sb×Int×ai)×ai)
abbrev bX:=(Sb×Sb×(List Sb)×Sb×Int×Int×Bool×ai)
abbrev vg:=(Sb×Int×ai)
abbrev CI:=(Int×Sb×Int×Sb×ai)
abbrev rF:=(Sb×Int×Int×Sb×Sb×ai)
abbrev Al:=(Nat×(Int×Int×ai)×Sb×ai)
abbrev Am:=((Int×Int×ai)×Sb×ai)
abbrev ae1:=(Sb×(List Sb)×Sb×Sb×Sb×(List<|Sb×Sb×Sb×ai)×ai)
abbrev ae2:=(Sb×Int×Int×ai)
abbrev aiE:=(Sb×(List Sb)×ai)
abbrev adD:=(Sb×(List Sb)×Sb×Sb×(List<|Sb×Sb×Sb×ai)×ai)
abbrev A8:=((List bX)×Int×ai×Sb×Int×ai)
abbrev gE:=(Int×Int×ai)
abbrev vY:=((List bX)×Int×ai×Sb×ai)
abbrev ag7:=(Int×Sb×Int×ai)
abbrev P5:=(Nat×gE×ai×Sb×ai)
abbrev D5:=(aq×(aq×((List aq)×(aq×(Int×(Int×(Bool×ai)))))))
abbrev ag8:=((ai×ai×Bool×Int×ai)×(List Sb)×(List bX)×ai)
abbrev P6:=(gE×ai×Sb×ai)
abbrev Xa:=((Int×Int×ai×ai)×Sb×(List vg)×ai)
abbrev ag9:=(Nat×ae2×ai)
def eh(l:List aq)(x:(Int×((List aq)×ai))):Option (List aq):=E4 l x.1 x.2.1
def da(l:List D5)(x:(Int×((List D5)×ai))):Option (List D5):=E4 l x.1 x.2.1
def ej(l:List aq)(x:(Int×(Int×ai))):Option (List aq):=UQ l x.1 x.2.1
def db(l:List D5)(x:(Int×(Int×ai))):Option (List D5):=UQ l x.1 x.2.1
def ep(l:List (aq×(Int×ai)))(x:(Int×((List<|aq×(Int×ai))×ai))):Option (List<|aq×(Int×ai)):=E4 l x.1 x.2.1
def oF(x:ai):Option (Sb×ai) :=
 af (ni (([0]:aq),(1024:Int),())) (λa=>some (a.1,()))
def kh(x:(List bX)×Sb×ai)(a:A8×(List bX)×ai):Option ((A8×(List bX)×ai)⊕(Nat×A8×(List bX)×ai)) :=
 aj (aY a.1.2.2.2.2.1<|len x.1)
 (af (idx x.1 a.1.2.2.2.2.1) λb=>aj (nt<|bt b.1 a.1.2.2.2.1)
 (some<|Sum.inl ((a.1.1,a.1.2.1,(),a.1.2.2.2.1,aF i64 a.1.2.2.2.2.1 1,()),a.2.1,()))
 (aj (aX (len a.2.1) 16)
 (some<|Sum.inr (1,(([]:List bX),(5:Int),(),a.1.2.2.2.1,a.1.2.2.2.2.1,()),a.2.1,()))
 (af (bA (b.2.2.1,())) λc=>aj (fits<|plus (len a.2.1)<|len ([(b.1,b.2.1,c.1,b.2.2.2)]:List bX))
 (aj (bt b.2.1 ([]:aq))
 (some<|Sum.inr (2,(a.1.1,a.1.2.1,(),a.1.2.2.2.1,a.1.2.2.2.2.1,()),app a.2.1 ([(b.1,b.2.1,c.1,b.2.2.2)]:List bX),()))
 (some<|Sum.inr (3,(a.1.1,a.1.2.1,(),b.2.1,a.1.2.2.2.2.1,()),app a.2.1 ([(b.1,b.2.1,c.1,b.2.2.2)]:List bX),())))
 none)))
 (some<|Sum.inr (0,(a.1.1,a.1.2.1,(),a.1.2.2.2.1,a.1.2.2.2.2.1,()),a.2.1,()))
def kj(x:(List bX)×Sb×ai)(c:vY×(List bX)×ai):Option ((vY×(List bX)×ai)⊕(Nat×vY×(List bX)×ai)) :=
 af (Loop (kh x) ((c.1.1,c.1.2.1,(),c.1.2.2.2.1,(0:Int),()),c.2.1,())) (λa=>aj (dJ a.1 0)
 (some<|Sum.inr (0,(([]:List bX),(3:Int),(),a.2.1.2.2.2.1,()),a.2.2.1,()))
 (aj (dJ (@Nat.rec (λ(b:Nat)=>Nat) 0 (λ(b:Nat)=>λ(d:Nat)=>b) a.1) 0)
 (some<|Sum.inr (0,(a.2.1.1,a.2.1.2.1,(),a.2.1.2.2.2.1,()),a.2.2.1,()))
 (aj (dJ (@Nat.rec (λ(b:Nat)=>Nat) 0 (λ(b:Nat)=>λ(d:Nat)=>b)<|@Nat.rec (λ(b:Nat)=>Nat) 0 (λ(b:Nat)=>λ(d:Nat)=>b) a.1) 0)
 (some<|Sum.inr (1,(a.2.1.1,a.2.1.2.1,(),a.2.1.2.2.2.1,()),a.2.2.1,()))
 (some<|Sum.inl ((a.2.1.1,a.2.1.2.1,(),a.2.1.2.2.2.1,()),a.2.2.1,())))))
def sk(x:(List bX)×Sb×ai):Option ((List bX)×Int×ai) :=
 af (Loop (kj x) ((([]:List bX),(0:Int),(),x.2.1,()),([]:List bX),())) (λa=>aj (dJ a.1 0)
 (some (a.2.1.1,a.2.1.2.1,()))
 (some (a.2.2.1,(0:Int),())))
def lM(x:dc×ai):Option ((List Sb)×ai) :=
 aj (inside 0 (len x.1.2.2.1)<|len x.1.2.2.1)
 (aj (fits<|len x.1.2.2.1)
 (some (over (jN (len x.1.2.2.1) ([]:aq)) (0:Int)<|@iU Sb x.1.2.2.2.1<|len<|jN (len x.1.2.2.1) ([]:aq),()))
 none)
 none
def te(x:bX×ai):Option (Sb×ai) :=
 some (x.1.1,())
def xF(x:dc×Sb×ai)(a:gE×ai×Sb×ai):Option (P6⊕P5) :=
 aj (aY a.1.2.1<|len x.1.2.2.1)
 (af (idx x.1.2.2.1 a.1.2.1) λb=>af (te (b,())) λc=>aj (bt c.1 a.2.2.1)
 (some<|Sum.inr (1,(a.1.2.1,a.1.2.1,()),(),a.2.2.1,()))
 (some<|Sum.inl ((a.1.1,aF i64 a.1.2.1 1,()),(),a.2.2.1,())))
 (some<|Sum.inr (0,(a.1.1,a.1.2.1,()),(),a.2.2.1,()))
def lN(x:dc×Sb×ai):Option (bX×Sb×Bool×ai) :=
 af (af (Loop (xF x) (((0:Int),(0:Int),()),(),x.2.1,())) λa=>aj (dJ a.1 0)
 (some (((-1:Int),()),(),a.2.2.2.1,()))
 (some ((a.2.1.1,()),(),a.2.2.2.1,()))) (λa=>aj (aY a.1.1 0)
 (some ((([]:aq),([]:aq),([]:List Sb),([]:aq),(0:Int),(0:Int),false,()),([]:aq),false,()))
 (af (idx x.1.2.2.1 a.1.1) λb=>af (bA (b.2.2.1,())) λc=>af (lM (x.1,())) λd=>af (idx d.1 a.1.1) λe=>some ((b.1,b.2.1,c.1,b.2.2.2),e,true,())))
def Ht(x:dc×Sb×ai)(a:A8×(List bX)×ai):Option ((A8×(List bX)×ai)⊕(Nat×A8×(List bX)×ai)) :=
 aj (aY a.1.2.2.2.2.1<|len x.1.2.2.1)
 (af (idx x.1.2.2.1 a.1.2.2.2.2.1) λb=>aj (nt<|bt b.1 a.1.2.2.2.1)
 (some<|Sum.inl ((a.1.1,a.1.2.1,(),a.1.2.2.2.1,aF i64 a.1.2.2.2.2.1 1,()),a.2.1,()))
 (aj (aX (len a.2.1) 16)
 (some<|Sum.inr (1,(([]:List bX),(5:Int),(),a.1.2.2.2.1,a.1.2.2.2.2.1,()),a.2.1,()))
 (af (bA (b.2.2.1,())) λc=>aj (fits<|plus (len a.2.1)<|len ([(b.1,b.2.1,c.1,b.2.2.2)]:List bX))
 (aj (bt b.2.1 ([]:aq))
 (some<|Sum.inr (2,(a.1.1,a.1.2.1,(),a.1.2.2.2.1,a.1.2.2.2.2.1,()),app a.2.1 ([(b.1,b.2.1,c.1,b.2.2.2)]:List bX),()))
 (some<|Sum.inr (3,(a.1.1,a.1.2.1,(),b.2.1,a.1.2.2.2.2.1,()),app a.2.1 ([(b.1,b.2.1,c.1,b.2.2.2)]:List bX),())))
 none)))
 (some<|Sum.inr (0,(a.1.1,a.1.2.1,(),a.1.2.2.2.1,a.1.2.2.2.2.1,()),a.2.1,()))
def y6(x:dc×Sb×ai)(c:vY×(List bX)×ai):Option ((vY×(List bX)×ai)⊕(Nat×vY×(List bX)×ai)) :=
 af (Loop (Ht x) ((c.1.1,c.1.2.1,(),c.1.2.2.2.1,(0:Int),()),c.2.1,())) (λa=>aj (dJ a.1 0)
 (some<|Sum.inr (0,(([]:List bX),(3:Int),(),a.2.1.2.2.2.1,()),a.2.2.1,()))
 (aj (dJ (@Nat.rec (λ(b:Nat)=>Nat) 0 (λ(b:Nat)=>λ(d:Nat)=>b) a.1) 0)
 (some<|Sum.inr (0,(a.2.1.1,a.2.1.2.1,(),a.2.1.2.2.2.1,()),a.2.2.1,()))
 (aj (dJ (@Nat.rec (λ(b:Nat)=>Nat) 0 (λ(b:Nat)=>λ(d:Nat)=>b)<|@Nat.rec (λ(b:Nat)=>Nat) 0 (λ(b:Nat)=>λ(d:Nat)=>b) a.1) 0)
 (some<|Sum.inr (1,(a.2.1.1,a.2.1.2.1,(),a.2.1.2.2.2.1,()),a.2.2.1,()))
 (some<|Sum.inl ((a.2.1.1,a.2.1.2.1,(),a.2.1.2.2.2.1,()),a.2.2.1,())))))
def Hu(b:Nat×vY×(List bX)×ai)(a:gE×ai):Option ((gE×ai)⊕(gE×ai)) :=
 dh (aj (aY a.1.1 a.1.2.1)
 (af (idx b.2.1.1 a.1.2.1) λc=>af (idx b.2.1.1 a.1.1) λd=>af (idx b.2.1.1 a.1.1) λe=>none)
 (some<|Sum.inr (0,(a.1.1,a.1.2.1,()),())))
def Hv(x:dc×Sb×ai)(b:Nat×vY×(List bX)×ai)(a:(ai×Int×ai)×(List Sb)×ai):Option (((ai×Int×ai)×(List Sb)×ai)⊕((ai×Int×ai)×(List Sb)×ai)) :=
 dh (aj (aY a.1.2.1<|len b.2.1.1)
 (af (idx b.2.1.1 a.1.2.1) λd=>af (lN (x.1,d.1,())) λc=>aj (fits<|plus (len a.2.1)<|len ([c.2.1]:List Sb))
 (some<|Sum.inl (((),aF i64 a.1.2.1 1,()),app a.2.1 ([c.2.1]:List Sb),()))
 none)
 (some<|Sum.inr (0,((),a.1.2.1,()),a.2.1,())))
def eA(a:(Int×Int×ai×ai)×(List bX)×ai):Option (((Int×Int×ai×ai)×(List bX)×ai)⊕((Int×Int×ai×ai)×(List bX)×ai)) :=
 dh (aj (aY a.1.1 a.1.2.1)
 (aj (within a.1.2.1<|len a.2.1)
 (af (idx a.2.1 a.1.2.1) λb=>aj (within a.1.1<|len a.2.1)
 (af (idx a.2.1 a.1.1) λc=>aj (within a.1.1<|len a.2.1)
 (af (idx a.2.1 a.1.1) λe=>af (idx a.2.1 a.1.1) λf=>af (idx a.2.1 a.1.1) λg=>aj (within a.1.2.1<|len<|lR a.2.1 a.1.1 b)
 (af (idx (lR a.2.1 a.1.1 b) a.1.2.1) λh=>af (idx (lR a.2.1 a.1.1 b) a.1.2.1) λi=>af (idx (lR a.2.1 a.1.1 b) a.1.2.1) λd=>some (Sum.inl ((aF i64 a.1.1 1,cC i64 a.1.2.1 1,(),()),lR (lR a.2.1 a.1.1 b) a.1.2.1 c,())))
 none)
 none)
 none)
 none)
 (some<|Sum.inr (0,(a.1.1,a.1.2.1,(),()),a.2.1,())))
def oX(x:dc×Sb×ai)(b:(Int×Int×ai×ai)×(List bX)×ai)(a:(ai×Int×ai)×(List Sb)×ai):Option (((ai×Int×ai)×(List Sb)×ai)⊕((ai×Int×ai)×(List Sb)×ai)) :=
 dh (aj (aY a.1.2.1<|len b.2.1)
 (af (idx b.2.1 a.1.2.1) λd=>af (lN (x.1,d.1,())) λc=>aj (fits<|plus (len a.2.1)<|len ([c.2.1]:List Sb))
 (some<|Sum.inl (((),aF i64 a.1.2.1 1,()),app a.2.1 ([c.2.1]:List Sb),()))
 none)
 (some<|Sum.inr (0,((),a.1.2.1,()),a.2.1,())))
def nQ(x:dc×Sb×ai):Option ((List rF)×Int×ai) :=
 af (Loop (y6 x) ((([]:List bX),(0:Int),(),x.2.1,()),([]:List bX),())) (λa=>aj (dJ a.1 0)
 (aj (nt<|aX a.2.1.2.1 0)
 (some (([]:List rF),a.2.1.2.1,()))
 (af (Loop (Hu a) (((0:Int),cC i64 (len a.2.1.1) 1,()),())) λd=>af (Loop (Hv x a) (((),(0:Int),()),([]:List Sb),())) λc=>af (oA (c.2.1,())) λb=>some (b.1,b.2.1,())))
 (af (Loop (eA) (((0:Int),cC i64 (len a.2.2.1) 1,(),()),a.2.2.1,())) λd=>af (Loop (oX x d) (((),(0:Int),()),([]:List Sb),())) λc=>af (oA (c.2.1,())) λb=>some (b.1,b.2.1,())))
def qz(x:dc×Sb×ai):Option ((List rF)×Int×ai) :=
 aj (bt x.2.1 ([]:aq))
 (some (([]:List rF),(0:Int),()))
 (af (nQ (x.1,x.2.1,())) λa=>some (a.1,a.2.1,()))
def fM(x:Int×ai):Option (CI×ai) :=
 some ((x.1,([]:aq),(0:Int),([]:aq),()),())
def jI(x:(List Sb)×Int×Sb×ai):Option ((List Sb)×ai) :=
 aj (fits<|len x.1)
 (af (eh x.1 (x.2.1,([x.2.2.1]:List Sb),())) λa=>some (a,()))
 none
def pt(x:(List bX)×ai):Option ((List bX)×ai) :=
 bif fits (len x.1) then some (x.1,()) else none
def gG(x:(List bX)×Int×bX×ai):Option ((List bX)×ai) :=
 aj (fits<|len x.1)
 (af (da x.1 (x.2.1,([x.2.2.1]:List bX),())) λa=>some (a,()))
 none
def oY(x:dc×bX×Sb×ai)(a:gE×bX×ai):Option ((gE×bX×ai)⊕(Nat×gE×bX×ai)) :=
 aj (aY a.1.2.1<|len x.1.2.2.1)
 (af (idx x.1.2.2.1 a.1.2.1) λb=>aj (nt<|iu b.1 a.2.1.1)
 (some<|Sum.inr (1,(a.1.2.1,a.1.2.1,()),a.2.1,()))
 (some<|Sum.inl ((a.1.1,aF i64 a.1.2.1 1,()),a.2.1,())))
 (some<|Sum.inr (0,(a.1.1,a.1.2.1,()),a.2.1,()))
def nR(x:dc×bX×Sb×ai):Option (dc×ai) :=
 af (af (Loop (oY x) (((0:Int),(0:Int),()),x.2.1,())) λa=>aj (dJ a.1 0)
 (some (((-1:Int),()),a.2.2.1,()))
 (some ((a.2.1.1,()),a.2.2.1,()))) (λa=>af (lM (x.1,())) λb=>af (jI (b.1,((aj (aY a.1.1 0)
 ((len x.1.2.2.1,()),())
 ((a.1.1,()),())).1).1,x.2.2.1,())) λc=>af (gG (x.1.2.2.1,((aj (aY a.1.1 0)
 ((len x.1.2.2.1,()),())
 ((a.1.1,()),())).1).1,a.2.1,())) λd=>some ((x.1.1,x.1.2.1,d.1,c.1,x.1.2.2.2.2),()))
def cB(x:dc×Sb×(List Sb)×Sb×Int×ai):Option (dc×CI×ai) :=
 af (af (oq (x.2.2.1,())) λc=>aj (nt<|aX c.1 0)
 (some ((c.1,()),((),(),(),(),(),(),(),()),x.2.2.1,x.2.2.2.1,x.2.1,x.1,([]:aq),x.2.2.2.2.1,([]:aq),([]:List rF),()))
 (af (aj (bt x.2.2.2.1 ([]:aq))
 (some (((0:Int),()),x.2.2.2.1,()))
 (af (gh (x.2.2.2.1,())) λa=>some ((a.1,()),x.2.2.2.1,()))) λa=>aj (nt<|aX a.1.1 0)
 (some ((a.1.1,()),((),(),(),(),(),(),(),()),x.2.2.1,a.2.1,x.2.1,x.1,([]:aq),x.2.2.2.2.1,([]:aq),([]:List rF),()))
 (af (aj (nt<|bt x.2.1 ([]:aq))
 (af (cY (x.1,x.2.1,())) λd=>some ((d.2.1,()),d.1,()))
 (some (((0:Int),()),([]:aq),()))) λd=>aj (nt<|aX d.1.1 0)
 (some ((d.1.1,()),((),(),(),(),(),(),(),()),x.2.2.1,a.2.1,x.2.1,x.1,d.2.1,x.2.2.2.2.1,([]:aq),([]:List rF),()))
 (af (j7 (x.1,())) λh=>af (tN (h.1,([]:aq),x.2.2.1,())) λi=>aj (nt<|aX i.1 0)
 (some ((i.1,()),((),(),(),(),(),(),(),()),x.2.2.1,a.2.1,x.2.1,x.1,d.2.1,x.2.2.2.2.1,([]:aq),([]:List rF),()))
 (af (j7 (x.1,())) λj=>af (qj (j.1,x.2.2.2.2.1,())) λg=>aj (nt<|aX g.2.1 0)
 (some ((g.2.1,()),((),(),(),(),(),(),(),()),x.2.2.1,a.2.1,x.2.1,x.1,d.2.1,x.2.2.2.2.1,g.1,([]:List rF),()))
 (af (af (sk (x.1.2.2.1,d.2.1,())) λe=>aj (aj (aj (nt<|bt d.2.1 ([]:aq))
 (aX e.2.1 0)
 false)
 (cu 16<|len e.1)
 false)
 (some (((5:Int),()),d.2.1,x.1,()))
 (some (((0:Int),()),d.2.1,x.1,()))) λe=>aj (nt<|aX e.1.1 0)
 (some ((e.1.1,()),((),(),(),(),(),(),(),()),x.2.2.1,a.2.1,x.2.1,e.2.2.1,e.2.1,x.2.2.2.2.1,g.1,([]:List rF),()))
 (af (aj (bt a.2.1 ([]:aq))
 (some (((0:Int),()),([]:List rF),e.2.1,e.2.2.1,a.2.1,()))
 (af (qz (e.2.2.1,e.2.1,())) λb=>af (aj (aX b.2.1 0)
 (af (iP (b.1,a.2.1,())) λf=>some ((f.2.1,()),()))
 (some ((b.2.1,()),()))) λf=>some ((f.1.1,()),b.1,e.2.1,e.2.2.1,a.2.1,()))) λb=>aj (nt<|aX b.1.1 0)
 (some ((b.1.1,()),((),(),(),(),(),(),(),()),x.2.2.1,b.2.2.2.2.1,x.2.1,b.2.2.2.1,b.2.2.1,x.2.2.2.2.1,g.1,b.2.1,()))
 (some (((0:Int),()),((),(),(),(),(),(),(),()),x.2.2.1,b.2.2.2.2.1,x.2.1,b.2.2.2.1,b.2.2.1,x.2.2.2.2.1,g.1,b.2.1,()))))))))) (λc=>aj (nt<|aX c.1.1 0)
 (af (fM (c.1.1,())) λa=>some (c.2.2.2.2.2.1,a.1,()))
 (af (aj (bt c.2.2.2.1 ([]:aq))
 (af (oF ()) λa=>some ((),a.1,()))
 (some ((),c.2.2.2.1,()))) λa=>aj (fits<|plus (len ([]:List Sb))<|len c.2.2.1)
 (af (sF (a.2.1,())) λd=>af (nR (c.2.2.2.2.2.1,(c.2.2.2.2.2.2.2.2.1,c.2.2.2.2.2.2.1,app ([]:List Sb) c.2.2.1,d.1,len a.2.1,(0:Int),true,()),a.2.1,())) λh=>some (h.1,((0:Int),c.2.2.2.2.2.2.2.2.1,(0:Int),([]:aq),()),()))
 none))
def oZ(x:dc×Sb×ai)(a:gE×Sb×ai):Option (Am⊕Al) :=
 aj (aY a.1.2.1<|len x.1.2.2.1)
 (af (idx x.1.2.2.1 a.1.2.1) λb=>aj (bt b.2.1 a.2.1)
 (some<|Sum.inr (1,(a.1.2.1,a.1.2.1,()),a.2.1,()))
 (some<|Sum.inl ((a.1.1,aF i64 a.1.2.1 1,()),a.2.1,())))
 (some<|Sum.inr (0,(a.1.1,a.1.2.1,()),a.2.1,()))
def tf(x:dc×Sb×ai)(a:gE×Sb×ai):Option (Am⊕Al) :=
 aj (aY a.1.2.1<|len x.1.2.1)
 (af (idx x.1.2.1 a.1.2.1) λb=>aj (bt b.2.2.1 a.2.1)
 (some<|Sum.inr (1,(a.1.2.1,a.1.2.1,()),a.2.1,()))
 (some<|Sum.inl ((a.1.1,aF i64 a.1.2.1 1,()),a.2.1,())))
 (some<|Sum.inr (0,(a.1.1,a.1.2.1,()),a.2.1,()))
def y7(x:dc×Sb×ai)(a:gE×Sb×ai):Option (Am⊕Al) :=
 aj (aY a.1.2.1<|len x.1.1)
 (af (idx x.1.1 a.1.2.1) λb=>aj (bt b.2.2.2.1 a.2.1)
 (some<|Sum.inr (1,(a.1.2.1,a.1.2.1,()),a.2.1,()))
 (some<|Sum.inl ((a.1.1,aF i64 a.1.2.1 1,()),a.2.1,())))
 (some<|Sum.inr (0,(a.1.1,a.1.2.1,()),a.2.1,()))
def Hw(x:dc×Sb×ai)(a:gE×Sb×ai):Option (Am⊕Al) :=
 aj (aY a.1.2.1<|len x.1.1)
 (af (idx x.1.1 a.1.2.1) λb=>aj (bt b.2.2.2.1 a.2.1)
 (some<|Sum.inr (1,(a.1.2.1,a.1.2.1,()),a.2.1,()))
 (some<|Sum.inl ((a.1.1,aF i64 a.1.2.1 1,()),a.2.1,())))
 (some<|Sum.inr (0,(a.1.1,a.1.2.1,()),a.2.1,()))
def ub(x:dc×Sb×ai):Option (Bool×ai) :=
 af (af (Loop (oZ x) (((0:Int),(0:Int),()),x.2.1,())) λa=>aj (dJ a.1 0)
 (some (((-1:Int),()),a.2.2.1,()))
 (some ((a.2.1.1,()),a.2.2.1,()))) (λa=>af (Loop (tf x) (((0:Int),(0:Int),()),a.2.1,())) λc=>aj (dJ c.1 0)
 (aj (nt<|aj (nt<|cu 0 a.1.1)
 false
 true)
 (af (Loop (y7 x) (((0:Int),(0:Int),()),c.2.2.1,())) λb=>aj (dJ b.1 0)
 (some (false,()))
 (some (cu 0 b.2.1.1,())))
 (some (true,())))
 (aj (nt<|aj (nt<|cu 0 a.1.1)
 (cu 0 c.2.1.1)
 true)
 (af (Loop (Hw x) (((0:Int),(0:Int),()),c.2.2.1,())) λb=>aj (dJ b.1 0)
 (some (false,()))
 (some (cu 0 b.2.1.1,())))
 (some (true,()))))
def tg(x:vg×ai):Option (Sb×ai) :=
 some (x.1.1,())
def mi(x:dc×Sb×ai)(a:gE×ai×Sb×ai):Option (P6⊕P5) :=
 aj (aY a.1.2.1<|len x.1.2.2.2.2.1)
 (af (idx x.1.2.2.2.2.1 a.1.2.1) λb=>af (tg (b,())) λc=>aj (bt c.1 a.2.2.1)
 (some<|Sum.inr (1,(a.1.2.1,a.1.2.1,()),(),a.2.2.1,()))
 (some<|Sum.inl ((a.1.1,aF i64 a.1.2.1 1,()),(),a.2.2.1,())))
 (some<|Sum.inr (0,(a.1.1,a.1.2.1,()),(),a.2.2.1,()))
def ij(x:dc×Sb×ai):Option (Int×ai) :=
 af (Loop (mi x) (((0:Int),(0:Int),()),(),x.2.1,())) (λa=>aj (dJ a.1 0)
 (some ((0:Int),()))
 (aj (aY a.2.1.1 0)
 (some ((0:Int),()))
 (af (idx x.1.2.2.2.2.1 a.2.1.1) λb=>some (b.2.1,()))))
def gH(x:(List Sb)×Int×ai):Option ((List Sb)×ai) :=
 aj (aY x.2.1 0)
 (some (x.1,()))
 (aj (fits<|len x.1)
 (af (ej x.1 (x.2.1,aF i64 x.2.1 1,())) λa=>some (a,()))
 none)
def fl(x:(List bX)×Int×ai):Option ((List bX)×ai) :=
 aj (aY x.2.1 0)
 (some (x.1,()))
 (aj (fits<|len x.1)
 (af (db x.1 (x.2.1,aF i64 x.2.1 1,())) λa=>some (a,()))
 none)
def pv(x:(List vg)×ai):Option ((List vg)×ai) :=
 bif fits (len x.1) then some (x.1,()) else none
def bE(x:(List vg)×Int×vg×ai):Option ((List vg)×ai) :=
 aj (fits<|len x.1)
 (af (ep x.1 (x.2.1,([x.2.2.1]:List vg),())) λa=>some (a,()))
 none
def nS(x:dc×Sb×Int×ai)(a:gE×Sb×ai):Option (Am⊕Al) :=
 aj (aY a.1.2.1<|len x.1.2.2.2.2.1)
 (aj (within a.1.2.1<|len x.1.2.2.2.2.1)
 (af (idx x.1.2.2.2.2.1 a.1.2.1) λb=>aj (bt b.1 a.2.1)
 (some<|Sum.inr (1,(a.1.2.1,a.1.2.1,()),a.2.1,()))
 (some<|Sum.inl ((a.1.1,aF i64 a.1.2.1 1,()),a.2.1,())))
 none)
 (some<|Sum.inr (0,(a.1.1,a.1.2.1,()),a.2.1,()))
def xG(x:dc×Sb×Int×ai)(a:gE×Sb×ai):Option (Am⊕Al) :=
 aj (aY a.1.2.1<|len x.1.2.2.2.2.1)
 (af (idx x.1.2.2.2.2.1 a.1.2.1) λb=>aj (nt<|Zk (iu b.1 a.2.1)<|bt b.1 a.2.1)
 (some<|Sum.inr (1,(a.1.2.1,a.1.2.1,()),a.2.1,()))
 (some<|Sum.inl ((a.1.1,aF i64 a.1.2.1 1,()),a.2.1,())))
 (some<|Sum.inr (0,(a.1.1,a.1.2.1,()),a.2.1,()))
def FI(x:dc×Sb×Int×ai)(a:gE×Sb×ai):Option (Am⊕Al) :=
 aj (aY a.1.2.1<|len x.1.2.2.2.2.1)
 (af (idx x.1.2.2.2.2.1 a.1.2.1) λb=>aj (nt<|Zk (iu b.1 a.2.1)<|bt b.1 a.2.1)
 (some<|Sum.inr (1,(a.1.2.1,a.1.2.1,()),a.2.1,()))
 (some<|Sum.inl ((a.1.1,aF i64 a.1.2.1 1,()),a.2.1,())))
 (some<|Sum.inr (0,(a.1.1,a.1.2.1,()),a.2.1,()))
def nT(a:(Int×Int×ai×ai)×Sb×(List vg)×ai):Option (Xa⊕Xa) :=
 dh (aj (aY a.1.2.1<|len a.2.2.1)
 (aj (within a.1.2.1<|len a.2.2.1)
 (af (idx a.2.2.1 a.1.2.1) λc=>af (aj (nt<|bt c.1 a.2.1)
 (aj (within a.1.1<|len a.2.2.1)
 (af (idx a.2.2.1 a.1.1) λb=>af (idx a.2.2.1 a.1.1) λd=>af (idx a.2.2.1 a.1.1) λe=>some ((aF i64 a.1.1 1,(),()),lR a.2.2.1 a.1.1 c,()))
 none)
 (some ((a.1.1,(),()),a.2.2.1,()))) λb=>some (Sum.inl ((b.1.1,aF i64 a.1.2.1 1,(),()),a.2.1,b.2.1,())))
 none)
 (some<|Sum.inr (0,(a.1.1,a.1.2.1,(),()),a.2.1,a.2.2.1,())))
def rG(b:(Int×Int×ai×ai)×Sb×(List vg)×ai)(a:gE×Sb×ai):Option (Am⊕Al) :=
 aj (aY a.1.2.1<|len<|sub (over b.2.2.1 b.1.1<|jN (minus (len b.2.2.1) b.1.1) (([]:aq),(0:Int),())) (0:Int)<|minus b.1.1 0)
 (af (idx (sub (over b.2.2.1 b.1.1<|jN (minus (len b.2.2.1) b.1.1) (([]:aq),(0:Int),())) (0:Int)<|minus b.1.1 0) a.1.2.1) λc=>aj (nt<|Zk (iu c.1 a.2.1)<|bt c.1 a.2.1)
 (some<|Sum.inr (1,(a.1.2.1,a.1.2.1,()),a.2.1,()))
 (some<|Sum.inl ((a.1.1,aF i64 a.1.2.1 1,()),a.2.1,())))
 (some<|Sum.inr (0,(a.1.1,a.1.2.1,()),a.2.1,()))
def oG(x:dc×Sb×Int×ai):Option (dc×ai) :=
 aj (fits<|len x.1.2.2.2.2.1)
 (af (Loop (nS x) (((0:Int),(0:Int),()),x.2.1,())) λc=>aj (dJ c.1 0)
 (af (aj (aY 0 x.2.2.1)
 (af (Loop (xG x) (((0:Int),(0:Int),()),c.2.2.1,())) λa=>aj (dJ a.1 0)
 (af (bE (x.1.2.2.2.2.1,(((len x.1.2.2.2.2.1,()),()).1).1,(a.2.2.1,x.2.2.1,()),())) λb=>some ((b.1,()),a.2.2.1,()))
 (af (bE (x.1.2.2.2.2.1,((aj (aY a.2.1.1 0)
 ((len x.1.2.2.2.2.1,()),())
 ((a.2.1.1,()),())).1).1,(a.2.2.1,x.2.2.1,()),())) λb=>some ((b.1,()),a.2.2.1,())))
 (some ((x.1.2.2.2.2.1,()),c.2.2.1,()))) λa=>some ((x.1.1,x.1.2.1,x.1.2.2.1,x.1.2.2.2.1,a.1.1,x.1.2.2.2.2.2),()))
 (aj (aX c.2.1.1<|-1)
 (af (aj (aY 0 x.2.2.1)
 (af (Loop (FI x) (((0:Int),(0:Int),()),c.2.2.1,())) λa=>aj (dJ a.1 0)
 (af (bE (x.1.2.2.2.2.1,(((len x.1.2.2.2.2.1,()),()).1).1,(a.2.2.1,x.2.2.1,()),())) λb=>some ((b.1,()),a.2.2.1,()))
 (af (bE (x.1.2.2.2.2.1,((aj (aY a.2.1.1 0)
 ((len x.1.2.2.2.2.1,()),())
 ((a.2.1.1,()),())).1).1,(a.2.2.1,x.2.2.1,()),())) λb=>some ((b.1,()),a.2.2.1,())))
 (some ((x.1.2.2.2.2.1,()),c.2.2.1,()))) λa=>some ((x.1.1,x.1.2.1,x.1.2.2.1,x.1.2.2.2.1,a.1.1,x.1.2.2.2.2.2),()))
 (af (Loop (nT) ((c.2.1.1,aF i64 c.2.1.1 1,(),()),c.2.2.1,x.1.2.2.2.2.1,())) λa=>aj (inside a.1.1 (len a.2.2.1)<|len a.2.2.1)
 (aj (inside 0 a.1.1<|len<|over a.2.2.1 a.1.1<|jN (minus (len a.2.2.1) a.1.1) (([]:aq),(0:Int),()))
 (af (aj (aY 0 x.2.2.1)
 (af (Loop (rG a) (((0:Int),(0:Int),()),a.2.1,())) λb=>aj (dJ b.1 0)
 (af (bE (sub (over a.2.2.1 a.1.1<|jN (minus (len a.2.2.1) a.1.1) (([]:aq),(0:Int),())) (0:Int)<|minus a.1.1 0,(((len<|sub (over a.2.2.1 a.1.1<|jN (minus (len a.2.2.1) a.1.1) (([]:aq),(0:Int),())) (0:Int)<|minus a.1.1 0,()),()).1).1,(b.2.2.1,x.2.2.1,()),())) λd=>some ((d.1,()),b.2.2.1,()))
 (af (bE (sub (over a.2.2.1 a.1.1<|jN (minus (len a.2.2.1) a.1.1) (([]:aq),(0:Int),())) (0:Int)<|minus a.1.1 0,((aj (aY b.2.1.1 0)
 ((len<|sub (over a.2.2.1 a.1.1<|jN (minus (len a.2.2.1) a.1.1) (([]:aq),(0:Int),())) (0:Int)<|minus a.1.1 0,()),())
 ((b.2.1.1,()),())).1).1,(b.2.2.1,x.2.2.1,()),())) λd=>some ((d.1,()),b.2.2.1,())))
 (some ((sub (over a.2.2.1 a.1.1<|jN (minus (len a.2.2.1) a.1.1) (([]:aq),(0:Int),())) (0:Int)<|minus a.1.1 0,()),a.2.1,()))) λb=>some ((x.1.1,x.1.2.1,x.1.2.2.1,x.1.2.2.2.1,b.1.1,x.1.2.2.2.2.2),()))
 none)
 none)))
 none
def vh(x:dc×Sb×ai)(a:gE×ai×Sb×ai):Option (P6⊕P5) :=
 aj (aY a.1.2.1<|len x.1.2.2.1)
 (af (idx x.1.2.2.1 a.1.2.1) λb=>af (te (b,())) λc=>aj (bt c.1 a.2.2.1)
 (some<|Sum.inr (1,(a.1.2.1,a.1.2.1,()),(),a.2.2.1,()))
 (some<|Sum.inl ((a.1.1,aF i64 a.1.2.1 1,()),(),a.2.2.1,())))
 (some<|Sum.inr (0,(a.1.1,a.1.2.1,()),(),a.2.2.1,()))
def pa(x:dc×Sb×ai):Option (dc×ai) :=
 af (af (Loop (vh x) (((0:Int),(0:Int),()),(),x.2.1,())) λa=>aj (dJ a.1 0)
 (some (((-1:Int),()),(),a.2.2.2.1,()))
 (some ((a.2.1.1,()),(),a.2.2.2.1,()))) (λa=>af (lM (x.1,())) λb=>af (gH (b.1,a.1.1,())) λc=>af (fl (x.1.2.2.1,a.1.1,())) λd=>af (oG ((x.1.1,x.1.2.1,d.1,c.1,x.1.2.2.2.2),x.2.1,(0:Int),())) λe=>some (e.1,()))
def cF(x:dc×Sb×ai):Option (dc×CI×ai) :=
 af (cY (x.1,x.2.1,())) (λa=>aj (nt<|aX a.2.1 0)
 (af (fM (a.2.1,())) λb=>some (x.1,b.1,()))
 (af (ub (x.1,a.1,())) λb=>af (aj (nt b.1)
 (af (ij (x.1,a.1,())) λc=>some (aY 0 c.1))
 (some true)) λc=>aj c
 (af (fM ((7:Int),())) λd=>some (x.1,d.1,()))
 (af (pa (x.1,a.1,())) λd=>some (d.1,((0:Int),a.1,(0:Int),([]:aq),()),()))))
def kk(x:dc×Sb×Int×ai):Option (dc×CI×ai) :=
 af (cY (x.1,x.2.1,())) (λb=>aj (nt<|aX b.2.1 0)
 (af (fM (b.2.1,())) λa=>some (x.1,a.1,()))
 (af (ij (x.1,b.1,())) λa=>aj (aj (aY 0 x.2.2.1)
 (cu 1000 a.1)
 false)
 (af (fM ((5:Int),())) λc=>some (x.1,c.1,()))
 (aj (aj (aY x.2.2.1 0)
 (aY a.1 1)
 false)
 (af (fM ((11:Int),())) λc=>some (x.1,c.1,()))
 (af (oG (x.1,b.1,aF i64 a.1 x.2.2.1,())) λc=>some (c.1,((0:Int),b.1,aF i64 a.1 x.2.2.1,([]:aq),()),())))))
def ik(x:dc×Sb×ai):Option (dc×CI×ai) :=
 af (kk (x.1,x.2.1,(1:Int),())) (λa=>some (a.1,a.2.1,()))
def nU(x:dc×Sb×ai):Option (dc×CI×ai) :=
 af (kk (x.1,x.2.1,(-1:Int),())) (λa=>some (a.1,a.2.1,()))
def sn(x:dc×Sb×ai):Option (CI×ai) :=
 af (cY (x.1,x.2.1,())) (λa=>aj (nt<|aX a.2.1 0)
 (af (fM (a.2.1,())) λb=>some (b.1,()))
 (af (lN (x.1,a.1,())) λb=>some (((0:Int),a.1,(0:Int),b.2.1,()),())))
def qA(x:ai):Option (Sb×ai) :=
 aj (inside 0 1024 1024)
 (aj (fits (1024:Int))
 (some (bh<|jN (1024:Int) (0:Int),()))
 none)
 none
def jz(x:ai):Option (Bool×ai) :=
 af (cB ((([]:List ae1),([]:List adD),([]:List bX),([]:List Sb),([]:List vg),()),([]:aq),([([98,97,115,101]:aq)]:List Sb),([]:aq),(5:Int),())) (λb=>af (cB (b.1,([98,97,115,101]:aq),([]:List Sb),([]:aq),(5:Int),())) λd=>af (cF (d.1,([98,97,115,101]:aq),())) λj=>af (ik (d.1,([48,48,48,48,48,54]:aq),())) λe=>af (cF (e.1,([48,48,48,48,48,54]:aq),())) λk=>af (nU (e.1,([48,48,48,48,48,54]:aq),())) λh=>af (cF (h.1,([48,48,48,48,48,54]:aq),())) λi=>af (cB (b.1,([]:aq),([]:List Sb),([120]:aq),(1:Int),())) λl=>af (aj (aj (aj (aj (aj (aj (aj (an (aX b.2.1.1 0)<|an (bt b.2.1.2.1 ([48,48,48,48,48,53]:aq))<|an (aX b.2.1.2.2.1 0)<|an (bt b.2.1.2.2.2.1 ([]:aq)) true)
 (an (aX d.2.1.1 0)<|an (bt d.2.1.2.1 ([48,48,48,48,48,54]:aq))<|an (aX d.2.1.2.2.1 0)<|an (bt d.2.1.2.2.2.1 ([]:aq)) true)
 false)
 (aX j.2.1.1 7)
 false)
 (an (aX e.2.1.1 0)<|an (bt e.2.1.2.1 ([48,48,48,48,48,54]:aq))<|an (aX e.2.1.2.2.1 1)<|an (bt e.2.1.2.2.2.1 ([]:aq)) true)
 false)
 (aX k.2.1.1 7)
 false)
 (aX h.2.1.1 0)
 false)
 (bt i.2.1.2.1 ([48,48,48,48,48,54]:aq))
 false)
 (af (ew (i.1,b.1,())) λf=>some f.1)
 (some false)) λf=>af (aj (aj f
 (aX l.2.1.1 10)
 false)
 (af (sn (b.1,([48]:aq),())) λc=>af (qA ()) λa=>some (bt c.1.2.2.2.1 a.1))
 (some false)) λc=>af (aj c
 (af (oF ()) λa=>af (qA ()) λg=>some (bt a.1 g.1))
 (some false)) λa=>some (a,()))
def oH(x:dc×Sb×ai):Option (bX×Sb×Bool×ai) :=
 af (jn (x.1,x.2.1,())) (λa=>aj (aY a.1 0)
 (some ((([]:aq),([]:aq),([]:List Sb),([]:aq),(0:Int),(0:Int),false,()),([]:aq),false,()))
 (af (idx x.1.2.2.1 a.1) λb=>af (qt (x.1,a.1,())) λc=>some (b,c.1,true,())))
def jJ(x:dc×(List Sb)×Int×ai):Option (Bool×ai) :=
 af (vQ (x.1,())) (λy=>af (aj (nt<|nt y.1)
 (aj (within 0 2)
 (af (idx x.2.1 (0:Int)) λp=>some (aY 100<|len p))
 none)
 (some true)) λp=>af (aj (nt p)
 (aj (within 1 2)
 (af (idx x.2.1 (1:Int)) λq=>some (aY 8192<|len q))
 none)
 (some true)) λq=>af (aj (nt q)
 (af (kv (x.1,())) λr=>some (nt r.1))
 (some true)) λr=>aj r
 (af (jz ()) λs=>some (s.1,()))
 (aj (within 0 2)
 (af (idx x.2.1 (0:Int)) λs=>aj (within 1 2)
 (af (idx x.2.1 (1:Int)) λz=>af (cB (x.1,s,([([102,114,101,115,104,45,110,97,109,101]:aq)]:List Sb),z,x.2.2.1,())) λc=>aj (within 0 2)
 (af (idx x.2.1 (0:Int)) λA=>af (cF (x.1,A,())) λt=>aj (within 0 2)
 (af (idx x.2.1 (0:Int)) λu=>af (ik (x.1,u,())) λj=>af (kv (c.1,())) λv=>af (aj (nt<|nt v.1)
 (af (kv (t.1,())) λk=>some (nt k.1))
 (some true)) λk=>af (aj (nt k)
 (af (kv (j.1,())) λl=>some (nt l.1))
 (some true)) λl=>af (aj (nt l)
 (af (aj (nt<|aX c.2.1.1 0)
 (af (ew (c.1,x.1,())) λf=>some (nt f.1))
 (some false)) λf=>some f)
 (some true)) λf=>af (aj (nt f)
 (af (aj (nt<|aX t.2.1.1 0)
 (af (ew (t.1,x.1,())) λg=>some (nt g.1))
 (some false)) λg=>some g)
 (some true)) λg=>af (aj (nt g)
 (af (aj (nt<|aX j.2.1.1 0)
 (af (ew (j.1,x.1,())) λh=>some (nt h.1))
 (some false)) λh=>some h)
 (some true)) λh=>aj h
 (some (false,()))
 (aj (nt<|aX c.2.1.1 0)
 (af (aj (an (aX c.2.1.1 c.2.1.1)<|an (bt c.2.1.2.1 ([]:aq))<|an (aX c.2.1.2.2.1 0)<|an (bt c.2.1.2.2.2.1 ([]:aq)) true)
 (af (jz ()) λd=>some d.1)
 (some false)) λd=>some (d,()))
 (af (cY (c.1,([102,114,101,115,104,45,110,97,109,101]:aq),())) λd=>af (oH (c.1,c.2.1.2.1,())) λn=>aj (aj (nt<|aj (nt<|nt n.2.2.1)
 (nt<|bt d.1 c.2.1.2.1)
 true)
 (nt<|aX d.2.1 0)
 true)
 (some (false,()))
 (af (kK (c.1,c.2.1.2.1,())) λo=>aj (within 0 2)
 (af (idx x.2.1 (0:Int)) λw=>af (aj (nt<|bt w ([]:aq))
 (aj (within 0 2)
 (af (idx x.2.1 (0:Int)) λa=>af (cY (x.1,a,())) λi=>af (kK (x.1,i.1,())) λb=>aj (aj (nt<|aj (nt<|nt<|aX i.2.1 0)
 (nt<|aX b.2.1 0)
 true)
 (nt<|bt n.1.2.1 i.1)
 true)
 (some (1,(false,([]:List rF),()),()))
 (some (0,(false,b.1,()),())))
 none)
 (some (0,(false,([]:List rF),()),()))) λa=>aj (dJ a.1 0)
 (aj (within 1 2)
 (af (idx x.2.1 (1:Int)) λi=>af (aj (nt<|bt i ([]:aq))
 (aj (within 1 2)
 (af (idx x.2.1 (1:Int)) λb=>af (lJ (a.2.1.2.1,b,())) λe=>aj (nt<|aX e.2.1 0)
 (some (1,(false,a.2.1.2.1,()),()))
 (some (0,(a.2.1.1,e.1,()),())))
 none)
 (some (0,(a.2.1.1,a.2.1.2.1,()),()))) λb=>aj (dJ b.1 0)
 (af (aj (aX o.2.1 0)
 (af (tQ (o.1,b.2.1.2.1,())) λe=>some e.1)
 (some false)) λe=>af (aj e
 (af (jz ()) λm=>some m.1)
 (some false)) λm=>some (m,()))
 (some (b.2.1.1,())))
 none)
 (some (a.2.1.1,())))
 none))))
 none)
 none)
 none)
 none))
end Go.Ge
namespace Go.Ge
variable [Lp]
def Bk(n:Nat)(a:List Tx):List Tx:=a.take n++List.replicate (n-a.length) []
theorem D6(n:Nat)(a:List Tx):(Bk n a).length=n:=by
 unfold Bk;rw[fQ,fB,QB];omega
theorem Xb{n:Nat}{a:List Tx}(h:a.length=n):Bk n a=a:=by
 unfold Bk;rw[Bd<|by omega,show n-a.length=0 from by omega,List.replicate_zero,xN]
theorem adE{n i:Nat}{a:List Tx}(h:i<n):(Bk n a)[i]?=some ((a[i]?).getD []):=by
 unfold Bk;by_cases hi:i<a.length
 .rw[Ol<|by rw[fB];omega,fi,aQ h,fN hi];rfl
 .rw[Ij<|by rw[fB];omega,fB,VZ,aQ (by omega),Om (by omega)];rfl
theorem FJ(s:aZ)(b:s.2.2.1.length<=1000000):lM (s,())=some (Bk s.2.2.1.length s.2.2.2.1,()):=by
 unfold lM;dsimp only;rw[aR (by decide) (by unfold len;omega)<|re _,ab,ja (by omega),ab];have a:len (jN (len s.2.2.1) ([]:Tx))=(s.2.2.1.length:Int):=by unfold len jN;rw[qZ,QB]
 rw[show @len aq=@len Tx from rfl,show @jN aq=@jN Tx from rfl,a]
 congr 1
 unfold over jN len iU Bk;rw[show((0:Int).toNat)=0 from rfl,MY,sW,sr,qZ,List.drop_replicate,fB]
 congr 2
 congr 1
 omega
def KP(s:aZ)(x:ax)(d:Tx):aZ:=(s.1,(s.2.1,(oE (·.1) s.2.2.1 x,sR (Bk s.2.2.1.length s.2.2.2.1) (dx (λy:ax=>y.1) s.2.2.1 x.1) d,s.2.2.2.2)))
theorem Tj(s:aZ)(x:ax)(d:Tx)(r:s.2.2.1.length<=100000):nR (s,x,d,())=some (KP s x d,()):=by
 obtain⟨n,o,a,b,p⟩:=s;dsimp only at r;have l:=uq (λy:ax=>y.1) a x.1;unfold nR;dsimp only;have c:=KH (f:=oY ((n,o,a,b,p),x,d,())) (λy:ax=>y.1) a x.1 (by omega) (λi=>(((0:Int),i,()),x,())) (λi=>(1,((i:Int),(i:Int),()),x,()))
  (0,((0:Int),(a.length:Int),()),x,()) (λi y q=>by
   have hi:=aD q;unfold oY;dsimp only;rw[ak hi,ab,ao q,aa,aL (by omega)];cases iu y.1 x.1<;>rfl) (by unfold oY;dsimp only;rw[ay,ae])
 rw[c,aa];have e:=FJ (n,o,a,b,p) (by dsimp only;omega);have g:∀k:Nat,k<=a.length->jI (Bk a.length b,(k:Int),d,())=some (sR (Bk a.length b) k d,()):=λk l=>by
  unfold jI;dsimp only;rw[show @len aq=@len Tx from rfl,ja (by rw[D6];omega),ab];unfold eh;dsimp only;rw[adC (Bk a.length b) k d (by rw[D6];omega)<|by rw[D6];omega,aa]
 have h:gG (a,((dx (λy:ax=>y.1) a x.1:Nat):Int),x,())=some (oE (λy:ax=>y.1) a x,()):=by
  unfold gG;dsimp only;rw[ja<|by omega,ab];unfold da;dsimp only;rw[show E4 a ((dx (λy:ax=>y.1) a x.1:Nat):Int) [x]=_ from KG (λy:ax=>y.1) a x (by omega),aa]
 by_cases j:dx (λy:ax=>y.1) a x.1<a.length
 .rw[aQ j];dsimp only;rw[show dJ 1 0=false from rfl,ae,aa];dsimp only;rw[e,aa,aB (by omega),ae];dsimp only;rw[g _ l,aa,h,aa];rfl
 .rw[aM j];dsimp only;have m:dx (λy:ax=>y.1) a x.1=a.length:=by omega
  rw[bO,ab,aa];dsimp only;rw[e,aa,aK (by decide),ab];dsimp only;rw[show @len (Tx×Tx×List Tx×Tx×Int×Int×Bool×ai) a=((dx (λy:ax=>y.1) a x.1:Nat):Int) from by rw[m];rfl,g _ l,aa,h,aa];rfl
theorem KQ:oF ()=some (lL 1024,()):=by
 rw[show oF ()=wx ((1024:Int),()) from rfl];exact SP 1024 (by decide)
abbrev Ch1:=(List ax×Int×ai×Tx×Int×ai)×List ax×ai
theorem KR(b:List ax)(j:Tx)(u:b.length<=1000000)(p:∀x∈b,pg x.2.2.1)(c:List ax)(d:Int)(id:Tx)(a:List ax)(v:a.length<=16) :
  ∃i:Int,Loop (kh (b,j,())) ((c,d,(),id,(0:Int),()),a,())=some (match BQ b id with
   | none=>(0,(c,d,(),id,i,()),a,())
   | some k=>match b[k]? with
     | none=>(0,(c,d,(),id,i,()),a,())
     | some x=>if a.length=16 then(1,([],5,(),id,i,()),a,()) else if x.2.1=[] then(2,(c,d,(),id,i,()),a++[x],()) else(3,(c,d,(),x.2.1,i,()),a++[x],())):=by
 rcases ko (f:=kh (b,j,())) b (λi=>((c,d,(),id,i,()),a,())) (λ_ x=>decide (x.1=id))
  (λi x=>if a.length=16 then(1,([],5,(),id,(i:Int),()),a,()) else if x.2.1=[] then(2,(c,d,(),id,(i:Int),()),a++[x],()) else(3,(c,d,(),x.2.1,(i:Int),()),a++[x],()))
  (0,(c,d,(),id,(b.length:Int),()),a,()) (by omega) (λi x l r m=>by
   unfold kh;dsimp only;rw[ak r,ab,ao l,aa,fG,m];by_cases q:x.1=id
   .rw[dI q,aA,ae,aQ rfl,Y4 _ (p x<|dY l).small,aa];have n:aX (@len ax a) (16:Int)=decide (a.length=16):=by unfold aX len;apply gi.2;omega
    rw[n];by_cases e:a.length=16
    .rw[dI e,ab,aQ e]
    .rw[cJ e,ae,aM e];dsimp only;rw[show fits (plus (@len ax a)<|@len ax ([(x.1,x.2.1,x.2.2.1,x.2.2.2)]:List ax))=true from bD (by show _+1<=_;omega),ab,fG,hJ];by_cases g:x.2.1=[]
     .rw[dI g,aQ rfl,aQ g];rfl
     .rw[cJ g,aM g];rfl
   .rw[cJ q,aw,ab];rfl) (by unfold kh;dsimp only;rw[ay,ae]) with ⟨i,x,l,g,s,h⟩|⟨o,h⟩
 .refine⟨(i:Int),?_⟩;have t:x.1=id:=gM g;rw[KB l t s];dsimp only;rw[l];exact h
 .refine⟨(b.length:Int),?_⟩;rw[D1 o];exact h
theorem Tk{b:List ax}{id:Tx}(h:BQ b id=none)(n:Nat)(a:List ax):yx b n id a=([],3):=by
 unfold yx;rw[h]
theorem adF{b:List ax}{id:Tx}{k:Nat}(h:BQ b id=some k)(a:List ax):yx b 0 id a=([],5):=by
 unfold yx;rw[h]
theorem ae3{b:List ax}{id:Tx}{k:Nat}{x:ax}(h:BQ b id=some k)(c:b[k]?=some x)(n:Nat)(a:List ax) :
  yx b (n+1) id a=if x.2.1=[] then(a++[x],0) else yx b n x.2.1 (a++[x]):=by
 conv=>lhs;unfold yx
 rw[h];dsimp only;rw[c]
theorem GN(ls:List ax)(a:Tx)(j:ls.length<=1000000)(l:∀x∈ls,pg x.2.2.1):∀(n:Nat) (id:Tx) (acc:List ax),n+acc.length=16 ->
  ∃e f g,Loop (kj (ls,a,())) ((([]:List ax),(0:Int),(),id,()),acc,()) =
   some (if(yx ls n id acc).2=0 then(1,e,(yx ls n id acc).1,()) else(0,((yx ls n id acc).1,(yx ls n id acc).2,f),g)):=by
 intro n;induction n with
 | zero =>
   intro id acc m;rw[aN];unfold kj;dsimp only;obtain⟨i,h⟩:=KR ls a j l [] 0 id acc (by omega);rw[h,aa];cases b:BQ ls id with
   | none =>
     rw[Tk b];exact⟨(([]:List ax),(0:Int),(),id,()),_,_,rfl⟩
   | some k =>
     obtain⟨x,c,_⟩:=Ai b;rw[adF b];dsimp only;rw[c];dsimp only;rw[aQ<|by omega];exact⟨(([]:List ax),(0:Int),(),id,()),_,_,rfl⟩
 | succ n o =>
   intro id acc m;rw[aN];unfold kj;dsimp only;obtain⟨i,h⟩:=KR ls a j l [] 0 id acc (by omega);rw[h,aa];cases b:BQ ls id with
   | none =>
     rw[Tk b];exact⟨(([]:List ax),(0:Int),(),id,()),_,_,rfl⟩
   | some k =>
     obtain⟨x,c,_⟩:=Ai b;rw[ae3 b c];dsimp only;rw[c];dsimp only;rw[aM<|by omega];by_cases d:x.2.1=[]
     .rw[aQ d,aQ d];exact⟨_,((),([]:Tx),()),(acc,()),rfl⟩
     .rw[aM d,aM d];obtain⟨e,f,g,p⟩:=o x.2.1 (acc++[x]) (by rw[fQ];show n+(_+1)=16;omega);exact⟨e,f,g,p⟩
theorem KT(a:List ax)(id:Tx)(b:a.length<=1000000)(d:∀x∈a,pg x.2.2.1):sk (a,id,())=some ((bc a id).1,(bc a id).2,()):=by
 unfold sk;dsimp only;obtain⟨e,f,g,h⟩:=GN a id b d 16 id [] rfl;rw[h,aa];unfold bc;by_cases c:(yx a 16 id []).2=0
 .rw[aQ c,c];rfl
 .rw[aM c];rfl
theorem Xc{b:Type}(a:b->Tx)(l:List b)(x:b):oE a l x=sR l (dx a l<|a x) x:=by
 unfold oE sR;rw[(yy a l x).1,(yy a l x).2]
end Go.Ge
