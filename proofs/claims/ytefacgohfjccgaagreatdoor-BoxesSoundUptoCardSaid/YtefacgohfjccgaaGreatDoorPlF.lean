/- Plain laws of what the functions compute: part 6. -/
import Derived.Test.YtefacgohfjccgaaGreatDoorPlE
import Derived.Test.YtefacgohfjccgaaGreatDoorGeI
set_option linter.unusedSectionVars false
set_option linter.unusedVariables false
set_option linter.unusedSimpArgs false
noncomputable section
namespace Go.Ge
variable [Lp]
def IM(t:List Nd)(q:List UInt8):Option Nd:=t.find? fun x=>decide (x.1=q)
theorem ZW(t:List Nd)(q:List UInt8):findF t q=match IM t q with
 | some x=>(x,(true,()))
 | none=>(aeQ,(false,())):=rfl
theorem at_mem{t:List Nd}{q:List UInt8}{x:Nd}(h:IM t q=some x):x∈t∧x.1=q:=by
 unfold IM at h;exact⟨WE h,by have:=Mq h;simpa using this⟩
theorem BI{t:List Nd}(ho:Ord t){q:List UInt8}{x:Nd}:IM t q=some x↔x∈t∧x.1=q:=by
 constructor
 ·exact at_mem
 ·rintro⟨h1,h2⟩;have:=N9 ho h1 h2;rw[ZW] at this;cases ha:IM t q with
  | none=>rw[ha] at this;cases (e9 (e9 this).2).1
  | some y=>rw[ha] at this;rw[(e9 this).1]
theorem ZX{a b:Option Nd}(h:∀x,a=some x↔b=some x):a=b:=by
 cases a with
 | none =>
   cases b with
   | none=>rfl
   | some y=>exact absurd ((h y).2 rfl) (by simp)
 | some x=>exact((h x).1 rfl).symm
theorem abJ:∀{l m:List Nd},(l.Pairwise fun x y=>cmpL (key x) (key y)<0)→(m.Pairwise fun x y=>cmpL (key x) (key y)<0)→(∀c,c∈l↔c∈m)→l=m:=by
 intro l;induction l with
 | nil =>
   intro m _ _ h;cases m with
   | nil=>rfl
   | cons d m=>exact absurd ((h d).2 (by simp)) (by simp)
 | cons c l ih =>
   intro m hl hm h;cases m with
   | nil=>exact absurd ((h c).1 (by simp)) (by simp)
   | cons d m =>
     rw[TY] at hl hm;have irr:∀x:Nd,¬cmpL (key x) (key x)<0:=fun x=>by rw[rI];omega
     have hcd:c=d:=by
      have h1:c=d∨c∈m:=by simpa using(h c).1 (by simp)
      have h2:d=c∨d∈l:=by simpa using(h d).2 (by simp)
      rcases h1 with e|h1
      ·exact e
      ·rcases h2 with e|h2
       ·exact e.symm
       ·exact absurd (xI (hl.1 d h2) (hm.1 c h1)) (irr c)
     subst hcd;rw[ih hl.2 hm.2 fun q=>?_];constructor
     ·intro hq;rcases List.mem_cons.1 ((h q).1 (qU _ hq)) with e|e
      ·subst e;exact absurd (hl.1 q hq) (irr q)
      ·exact e
     ·intro hq;rcases List.mem_cons.1 ((h q).2 (qU _ hq)) with e|e
      ·subst e;exact absurd (hm.1 q hq) (irr q)
      ·exact e
theorem aiV{s t:List Nd}(hs:Ord s)(ht:Ord t)(h:∀q,IM s q=IM t q):s=t :=
 abJ (JI.1 hs) (JI.1 ht) fun c=>by
  have a:=BI hs (q:=c.1) (x:=c);have b:=BI ht (q:=c.1) (x:=c);rw[h c.1] at a;constructor
  ·intro hc;exact(b.1 (a.2 ⟨hc,rfl⟩)).1
  ·intro hc;exact(a.1 (b.2 ⟨hc,rfl⟩)).1
theorem abK{l:List Nd}(hv:Valid l){p:List UInt8}(hp:p≠[]):∀(m:Nat) (x:Nd),x∈l→(parts x.1).length≤m→cO (parts x.1) (parts p)=true→∃y∈l,y.1=p∧y.2.1=2:=by
 intro m;induction m with
 | zero =>
   intro x hx hm hu;unfold cO at hu;have:=(ic hu).1;omega
 | succ m ih =>
   intro x hx hm hu;by_cases hex:∃y∈l,y.1=p
   ·by_cases h0:(bM x.1).1=[]
    ·exfalso;have hu2:=hu;unfold cO at hu2;have h1:=(ic hu2).1;have hmay:=hv.may x hx;unfold lG Ds at hmay;simp only[dW,nY] at hmay;have hall:=hmay.1.1.1.1.1.1.1.2;have hone:(parts x.1).length≤1:=by
      rcases vu x.1 with ⟨a,_⟩|⟨a,b,e1,e2,e⟩
      ·unfold parts;split
       ·simp
       ·rw[pI _ a];simp
      ·rw[e] at h0;have h0:a=[]:=h0;subst h0;have:Cz []=true:=List.all_eq_true.1 hall [] (by
        unfold parts;rw[e1,br (by simp)];show []∈cK ([]++47::b)
        rw[Gi [] (by simp)];simp)
       exact absurd this (by decide)
     have hpn:parts p=[]:=List.length_eq_zero_iff.1 (by omega);have:=gJ p;rw[hpn] at this;exact hp this.symm
    ·rcases hv.up x hx with e|⟨y,hy,hy1,hy2⟩
     ·exact absurd e h0
     ·have hk:=BE h0;rw[←hy1] at hk;unfold cO at hu;obtain⟨h1,h2⟩:=ic hu;rw[hk] at h1 h2;have hle:(parts p).length≤(parts y.1).length:=by simp at h1;omega
      rw[aai hle] at h2;rcases xe (parts p).length (parts y.1).length with g|g
      ·exact ih y hy (by rw[hk] at hm;simp at hm;omega) (by unfold cO;exact fo ⟨g,h2⟩)
      ·have he:parts p=parts y.1:=by rw[←h2,GG (by omega)]
       exact⟨y,hy,by rw[←gJ y.1,←he,gJ],hy2⟩
   ·have:=N8 hv hp (fun y hy e=>hex ⟨y,hy,e⟩) _ x hx (cU _);rw[this] at hu;cases hu
theorem ZY{t:List Nd}{n:Nd}(h:(cw t n).2=0)(q:List UInt8) :
  IM (cw t n).1 q=if q=n.1 then some n else if cO (parts q) (parts n.1)=true∧n.2.1≠2 then none else IM t q:=by
 rcases Oc t n with ⟨_,h2⟩|⟨h1,h2,h3,r,h4,h5,h6⟩
 ·exact absurd h h2
 have hvalid:=Rs h1 h2 h3 h4 h5;have hne:=ZT h2;rw[h6];dsimp only;refine ZX fun x=>?_;rw[BI hvalid.ord,vA];obtain⟨hsub,_⟩:=h4.sub;by_cases hq:q=n.1
 ·rw[bu hq];constructor
  ·rintro⟨e|hx,hx1⟩
   ·rw[e]
   ·exact absurd (hx1.trans hq) (hsub x hx).2
  ·intro e;obtain rfl:=aN e;exact⟨.inl rfl,hq.symm⟩
 ·rw[br hq];have hin:(x=n∨x∈r)∧x.1=q↔x∈r∧x.1=q:=by
   constructor
   ·rintro⟨e|hx,hx1⟩
    ·subst e;exact absurd hx1.symm hq
    ·exact⟨hx,hx1⟩
   ·rintro⟨hx,hx1⟩;exact⟨.inr hx,hx1⟩
  rw[hin];rcases h4 with ⟨⟨⟨d,hd,hd1,hd2⟩,hn2⟩,rfl⟩|⟨hno,rfl⟩
  ·rw[br (fun z=>z.2 hn2),BI h1.ord,Zb];constructor
   ·rintro⟨⟨a,_⟩,b⟩;exact⟨a,b⟩
   ·rintro⟨a,b⟩;exact⟨⟨a,by simp only[nq,OZ];rw[b];exact hq⟩,b⟩
  ·unfold xU;rw[Zb];by_cases hu:cO (parts q) (parts n.1)=true
   ·by_cases hk:n.2.1=2
    ·rw[br (fun z=>z.2 hk),BI h1.ord];constructor
     ·rintro⟨⟨a,b⟩,c⟩;exact⟨a,c⟩
     ·rintro⟨a,c⟩;exfalso;have:=abK h1 hne _ x a (cU _) (by rw[c];exact hu);exact hno ⟨this,hk⟩
    ·rw[bu ⟨hu,hk⟩];constructor
     ·rintro⟨⟨a,b⟩,c⟩;unfold gone at b;rw[c,hu] at b;simp at b
     ·intro e;cases e
   ·rw[br (fun z=>hu z.1),BI h1.ord];constructor
    ·rintro⟨⟨a,b⟩,c⟩;exact⟨a,c⟩
    ·rintro⟨a,c⟩;refine⟨⟨a,?_⟩,c⟩;unfold gone;rw[c,dJ hq,show cO (parts q) (parts n.1)=false by simpa using hu];rfl
def Qa(q:List UInt8)(s:Option Nd):Option Nd:=match s with
 | some x=>if x.2.1=2 then some x else some (mu 493 q)
 | none=>some (mu 493 q)
theorem V6{t:List Nd}(p:List UInt8):((findF t p).2.1=true∧(findF t p).1.2.1=2)↔∃x,IM t p=some x∧x.2.1=2:=by
 rw[ZW];cases IM t p with
 | none=>simp
 | some x=>simp
theorem ae3{ns:List (List UInt8)}(h:Od ns){i j:Nat}(hi:i<ns.length)(hj:j<ns.length)(e:fZ ns i=fZ ns j):i=j:=by
 have:=congrArg (fun p=>(parts p).length) e;simp only[Gr h,cW] at this;omega
theorem agX{ns:List (List UInt8)}(h:Od ns)(n:Nat)(hn:n≤ns.length)(q:List UInt8):∀(d i:Nat) (t:List Nd),i+d=n→Valid t →
  (jj ((ns.take n).drop i) (aO (ns.take i)) t).2=0 →
  ((∃j,i≤j∧j<n∧q=fZ ns j)→IM (jj ((ns.take n).drop i) (aO (ns.take i)) t).1 q=Qa q (IM t q)) ∧
  ((¬∃j,i≤j∧j<n∧q=fZ ns j)→IM (jj ((ns.take n).drop i) (aO (ns.take i)) t).1 q=IM t q):=by
 intro d;induction d with
 | zero =>
   intro i t hi hv _;obtain rfl:i=n:=by omega
   rw[Mj (by rw[cW];omega)];exact⟨fun⟨j,a,b,_⟩=>absurd a (by omega),fun _=>rfl⟩
 | succ d ih =>
   intro i t hi hv h0;have hx:ns[i]?=some ns[i]:=kL (by omega);have V1:(ns.take n).drop i=ns[i]::(ns.take n).drop (i+1):=by
    rw[CD (by rw[cW];omega),acS]
   have hj:=xV h hx;have Lr:fZ ns i=aO (ns.take (i+1)):=rfl;rw[V1] at h0⊢;unfold jj at h0⊢;rw[hj] at h0⊢;have cases':(∃j,i≤j∧j<n∧q=fZ ns j)↔(q=fZ ns i∨∃j,i+1≤j∧j<n∧q=fZ ns j):=by
    constructor
    ·rintro⟨j,a,b,c⟩;by_cases e:j=i
     ·subst e;exact .inl c
     ·exact .inr ⟨j,by omega,b,c⟩
    ·rintro(c|⟨j,a,b,c⟩)
     ·exact⟨i,cU _,by omega,c⟩
     ·exact⟨j,by omega,b,c⟩
   have apart:q=fZ ns i→¬∃j,i+1≤j∧j<n∧q=fZ ns j:=by
    rintro e ⟨j,a,b,c⟩;have:=ae3 h (by omega) (by omega) (e.symm.trans c);omega
   by_cases hc:(findF t (fZ ns i)).2.1=true∧(findF t (fZ ns i)).1.2.1=2
   ·rw[bu hc] at h0⊢;rw[Lr] at h0⊢;obtain⟨k1,k2⟩:=ih (i+1) t (by omega) hv h0;rw[cases'];obtain⟨x,x1,x2⟩:=(V6 _).1 hc;constructor
    ·rintro(e|e)
     ·rw[k2 (apart e),e,x1];unfold Qa;simp only[bu x2]
     ·exact k1 e
    ·intro e;exact k2 fun z=>e (.inr z)
   ·rw[br hc] at h0⊢;by_cases hp:(cw t (mu 493 (fZ ns i))).2=0
    ·rw[bu hp] at h0⊢;rw[Lr] at h0⊢;obtain⟨k1,k2⟩:=ih (i+1) _ (by omega) (xW hp) h0;have hput:=ZY hp q;rw[←Lr] at k1 k2;rw[cases'];have hk2:¬(mu 493 (fZ ns i)).2.1≠2:=fun z=>z rfl;rw[br (fun z:cO (parts q) (parts (mu 493 (fZ ns i)).1)=true∧(mu 493 (fZ ns i)).2.1≠2=>hk2 z.2)] at hput;constructor
     ·rintro(e|e)
      ·rw[bu (show q=(mu 493 (fZ ns i)).1 from e)] at hput;rw[←Lr,k2 (apart e),hput];unfold Qa;rw[V6] at hc;cases ha:IM t q with
       | none=>dsimp only;rw[e]
       | some x =>
         dsimp only;rw[br (fun z=>hc ⟨x,by rw[←e];exact ha,z⟩),e]
      ·rw[br (fun z:q=(mu 493 (fZ ns i)).1=>apart z e)] at hput;rw[←Lr,k1 e,hput]
     ·intro e;rw[br (fun z:q=(mu 493 (fZ ns i)).1=>e (.inl z))] at hput;rw[←Lr,k2 fun z=>e (.inr z),hput]
    ·rw[br hp] at h0;exact absurd h0 hp
def agY(ns:List (List UInt8))(n:Nd)(q:List UInt8)(s:Option Nd):Option Nd :=
 if q=n.1 then some n else if cO (parts q) ns=true∧n.2.1≠2 then none else if cO ns (parts q)=true∧q≠[] then Qa q s else s
theorem abL{ns:List (List UInt8)}(h:Od ns)(q:List UInt8):(∃j,0≤j∧j<ns.length-1∧q=fZ ns j)↔(cO ns (parts q)=true∧q≠[]):=by
 constructor
 ·rintro⟨j,_,hj,rfl⟩;rw[Gr h];constructor
  ·unfold cO;refine fo ⟨?_,?_⟩
   ·rw[cW];omega
   ·rw[cW,vK (by omega)]
  ·intro e;have:=congrArg (fun p=>(parts p).length) e;simp only[Gr h,cW,show(parts []).length=0 from rfl] at this;omega
 ·rintro⟨hu,hq⟩;unfold cO at hu;obtain⟨h1,h2⟩:=ic hu;have hpos:0<(parts q).length:=by
   apply Nat.pos_of_ne_zero;intro e;have:=gJ q;rw[List.length_eq_zero_iff.1 e] at this;exact hq this.symm
  refine⟨(parts q).length-1,rT _,by omega,?_⟩;unfold fZ;rw[show(parts q).length-1+1=(parts q).length by omega,h2,gJ]
theorem agZ{ns:List (List UInt8)}(h:Od ns){t:List Nd}(hv:Valid t){n:Nd}(hn:n.1=aO ns)(h0:(xX ns t n).2=0)(q:List UInt8):IM (xX ns t n).1 q=agY ns n q (IM t q):=by
 have hlt:ns.take (ns.length-1)=ns.dropLast:=List.dropLast_eq_take.symm;have ht0:aO (ns.take 0)=[]:=by simp[aO]
 unfold xX at h0⊢;by_cases hd:(jj ns.dropLast [] t).2=0
 ·rw[bu hd] at h0⊢;have hda:=agX h (ns.length-1) (by omega) q (ns.length-1) 0 t (by omega) hv (by rw[FO,hlt,ht0];exact hd);rw[FO,hlt,ht0,abL h] at hda;rw[ZY h0 q,hn,oH ns h];unfold agY;rw[hn];by_cases h1:q=aO ns
  ·rw[bu h1,bu h1]
  ·rw[br h1,br h1];by_cases h2:cO (parts q) ns=true∧n.2.1≠2
   ·rw[bu h2,bu h2]
   ·rw[br h2,br h2];by_cases h3:cO ns (parts q)=true∧q≠[]
    ·rw[bu h3,hda.1 h3]
    ·rw[br h3,hda.2 h3]
 ·rw[br hd] at h0;exact absurd h0 hd
def abM(q:List UInt8)(s:Option Nd)(p:Pt):Option Nd:=if(cB p).1=0∧(cB p).2.1≠[] then agY (cB p).2.1 (nE p (aO (cB p).2.1)) q s else s
def Oi(q:List UInt8)(p:Pt):Bool:=(decide ((cB p).1=1)&&(decide (q=aO (cB p).2.1)||cO (parts q) (cB p).2.1))||(decide ((cB p).1=2)&&cO (parts q) (cB p).2.1)
def ae4(q:List UInt8)(ps:List Pt)(s:Option Nd):Option Nd:=if ps.any (Oi q)=true then none else s
theorem aiW:∀(ps:List Pt) (t:List Nd),Valid t→(zS ps t).2=0→∀q,IM (zS ps t).1 q=ps.foldl (abM q) (IM t q):=by
 intro ps;induction ps with
 | nil=>intro t _ _ q;rfl
 | cons p r ih =>
   intro t hv h0 q;unfold zS at h0⊢;by_cases hp:(sS t p).2=0
   ·rw[bu hp] at h0⊢;rw[ih _ (zb hv hp) h0 q,Ua]
    congr 1
    unfold sS abM at *;by_cases hc:(cB p).1=0∧(cB p).2.1≠[]
    ·rw[bu hc] at hp⊢;rw[bu hc];exact agZ (DE p).1 hv rfl hp q
    ·rw[br hc,br hc]
   ·rw[br hp] at h0;exact absurd h0 hp
theorem aiX{t:List Nd}(hv:Valid t)(p:Pt)(q:List UInt8):IM (DF t p) q=if Oi q p=true then none else IM t q:=by
 have hvt:=BH hv p;have hsh:=DE p;have hpp:parts (aO (cB p).2.1)=(cB p).2.1:=oH _ hsh.1;refine ZX fun x=>?_;rw[BI hvt.ord];have key:∀P:Nd→Bool,(∀x,x.1=q→P x=!Oi q p)→((x∈t.filter P∧x.1=q)↔(if Oi q p=true then none else IM t q)=some x):=by
  intro P hP;rw[Zb];by_cases hb:Oi q p=true
  ·rw[bu hb];constructor
   ·rintro⟨⟨_,a⟩,b⟩;rw[hP x b,hb] at a;cases a
   ·intro e;cases e
  ·rw[br hb,BI hv.ord];constructor
   ·rintro⟨⟨a,_⟩,b⟩;exact⟨a,b⟩
   ·rintro⟨a,b⟩;exact⟨⟨a,by rw[hP x b];simpa using hb⟩,b⟩
 unfold DF;by_cases h1:(cB p).1=1
 ·rw[bu h1];refine key _ fun y hy=>?_;unfold gone Oi;rw[hy,hpp,h1];simp
 ·rw[br h1];by_cases h2:(cB p).1=2
  ·rw[bu h2];refine key _ fun y hy=>?_;unfold Oi;rw[hy,hpp,h2];simp
  ·rw[br h2];have hb:Oi q p=false:=by unfold Oi;rw[dJ h1,dJ h2];rfl
   rw[br (by rw[hb];decide),BI hv.ord]
theorem abN:∀(ps:List Pt) (t:List Nd),Valid t→∀q,IM (ps.foldl DF t) q=ae4 q ps (IM t q):=by
 intro ps;induction ps with
 | nil=>intro t _ q;rfl
 | cons p r ih =>
   intro t hv q;rw[Ua,ih _ (BH hv p) q,aiX hv p q];unfold ae4;rw[List.any_cons];cases Oi q p with
   | false=>rfl
   | true =>
     rw[bu rfl];simp
theorem YD{l:List Nd}(hv:Valid l){ps:List Pt}(ha:lI ps=true)(h0:(pV l ps).2=0):Valid (pV l ps).1∧∀q,IM (pV l ps).1 q=ps.foldl (abM q) (ae4 q ps (IM l q)):=by
 have hl:pV l ps=zS ps (ps.foldl DF l):=by unfold pV;rw[bu hv,bu ha]
 rw[hl] at h0⊢;have hf:=zd ps l hv;refine⟨?_,fun q=>?_⟩
 ·rcases Gs ps _ hf with ⟨_,h⟩|⟨h,_⟩
  ·exact h
  ·exact absurd h0 h
 ·rw[aiW ps _ hf h0 q,abN ps l hv q]
end Go.Ge
namespace Go.Ge
variable [Lp]
theorem ae5{l:List Nd}(hv:Valid l)(ps:List Pt):((pV l ps).2=0∧lI ps=true)∨((pV l ps).2≠0∧(pV l ps).1=[]∧((pV l ps).2=10∨(pV l ps).2=5)):=by
 by_cases ha:lI ps=true
 ·have hl:pV l ps=zS ps (ps.foldl DF l):=by unfold pV;rw[bu hv,bu ha]
  rw[hl];have hf:=zd ps l hv;rcases Gs ps _ hf with ⟨a1,a2⟩|⟨a1,a2⟩
  ·exact .inl ⟨a1,ha⟩
  ·rcases V5 ps _ ha hf with b|b
   ·exact absurd b a1
   ·exact .inr ⟨a1,a2,.inr b⟩
 ·have hl:pV l ps=([],10):=by unfold pV;rw[bu hv,br ha]
  rw[hl];exact .inr ⟨by decide,rfl,.inl rfl⟩
end Go.Ge
namespace Go.Ge
variable [Lp]
def BJ(q:List UInt8)(f:Option Nd→Option Nd):Prop:=(∃c,∀s,f s=c)∨(∀s,f s=Qa q s)∨(∀s,f s=s)
theorem Rv(q:List UInt8)(s:Option Nd):Qa q (Qa q s)=Qa q s:=by
 cases s with
 | none=>rfl
 | some x =>
   show Qa q (if x.2.1=2 then some x else some (mu 493 q))=if x.2.1=2 then some x else some (mu 493 q)
   by_cases h:x.2.1=2
   ·rw[bu h];show(if x.2.1=2 then some x else some (mu 493 q))=_
    rw[bu h]
   ·rw[br h];rfl
theorem BJ.comp{q:List UInt8}{f g:Option Nd→Option Nd}(hf:BJ q f)(hg:BJ q g):BJ q (fun s=>f (g s)):=by
 rcases hf with ⟨c,hc⟩|hf|hf
 ·exact .inl ⟨c,fun s=>hc _⟩
 ·rcases hg with ⟨c,hc⟩|hg|hg
  ·exact .inl ⟨Qa q c,fun s=>by show f (g s)=_;rw[hf,hc]⟩
  ·exact .inr (.inl fun s=>by show f (g s)=_;rw[hf,hg,Rv])
  ·exact .inr (.inl fun s=>by show f (g s)=_;rw[hf,hg])
 ·rcases hg with ⟨c,hc⟩|hg|hg
  ·exact .inl ⟨c,fun s=>by show f (g s)=_;rw[hf,hc]⟩
  ·exact .inr (.inl fun s=>by show f (g s)=_;rw[hf,hg])
  ·exact .inr (.inr fun s=>by show f (g s)=_;rw[hf,hg])
theorem BJ.akB{q:List UInt8}{f:Option Nd→Option Nd}(hf:BJ q f)(s:Option Nd):f (f s)=f s:=by
 rcases hf with ⟨c,hc⟩|hf|hf
 ·rw[hc,hc]
 ·rw[hf,hf,Rv]
 ·rw[hf,hf]
theorem YE(q:List UInt8)(p:Pt):BJ q (fun s=>abM q s p):=by
 unfold abM;by_cases hc:(cB p).1=0∧(cB p).2.1≠[]
 ·simp only[bu hc];unfold agY;by_cases h1:q=(nE p (aO (cB p).2.1)).1
  ·simp only[bu h1];exact .inl ⟨_,fun _=>rfl⟩
  ·simp only[br h1];by_cases h2:cO (parts q) (cB p).2.1=true∧(nE p (aO (cB p).2.1)).2.1≠2
   ·simp only[bu h2];exact .inl ⟨_,fun _=>rfl⟩
   ·simp only[br h2];by_cases h3:cO (cB p).2.1 (parts q)=true∧q≠[]
    ·simp only[bu h3];exact .inr (.inl fun _=>rfl)
    ·simp only[br h3];exact .inr (.inr fun _=>rfl)
 ·simp only[br hc];exact .inr (.inr fun _=>rfl)
theorem V7(q:List UInt8):∀(ps:List Pt),BJ q (fun s=>ps.foldl (abM q) s):=by
 intro ps;induction ps with
 | nil=>exact .inr (.inr fun _=>rfl)
 | cons p r ih=>exact ih.comp (YE q p)
theorem V8(q:List UInt8)(ps:List Pt):BJ q (ae4 q ps):=by
 unfold ae4;by_cases h:ps.any (Oi q)=true
 ·simp only[bu h];exact .inl ⟨_,fun _=>rfl⟩
 ·simp only[br h];exact .inr (.inr fun _=>rfl)
theorem ae6{l:List Nd}(hv:Valid l){ps:List Pt}(ha:lI ps=true):(pV l ps).2=0∨(pV l ps).2=5:=by
 have hl:pV l ps=zS ps (ps.foldl DF l):=by unfold pV;rw[bu hv,bu ha]
 rw[hl];exact V5 ps _ ha (zd ps l hv)
theorem abO{l:List Nd}(hv:Valid l){ps:List Pt}(ha:lI ps=true)(h0:(pV l ps).2=0):pV (pV l ps).1 ps=((pV l ps).1,0)∨(pV (pV l ps).1 ps).2=5:=by
 obtain⟨v1,a1⟩:=YD hv ha h0;rcases ae6 v1 ha with h|h
 ·left;obtain⟨v2,a2⟩:=YD v1 ha h;have:(pV (pV l ps).1 ps).1=(pV l ps).1:=aiV v2.ord v1.ord fun q=>by
   rw[a2,a1];exact((V7 q ps).comp (V8 q ps)).akB (IM l q)
  exact Prod.ext this h
 ·exact .inr h
def Fc(s:List UInt8):List Pt×Int:=match kC (s,()) with
 | some (l,e,_)=>(l,e)
 | none=>([],10)
theorem ZZ(s:List UInt8):kC (s,())=some ((Fc s).1,((Fc s).2,()))∧ae0 (Fc s).1:=by
 obtain⟨ps,e,r1,r2,r3,_⟩:=aeM s;unfold Fc;rw[r1];exact⟨rfl,agW r2 r3⟩
def qb(l:List Nd)(s:List UInt8):List Nd×Int:=if(Fc s).2=0 then pV l (Fc s).1 else([],10)
theorem Rw{l:List Nd}(hv:Valid l)(s:List UInt8):((qb l s).2=0∧Valid (qb l s).1∧(qb (qb l s).1 s=((qb l s).1,0)∨(qb (qb l s).1 s).2=5))∨((qb l s).2≠0∧(qb l s).1=[]):=by
 unfold qb;by_cases h:(Fc s).2=0
 ·rw[bu h];simp only[bu h];rcases ae5 hv (Fc s).1 with ⟨a,b⟩|⟨a,b,_⟩
  ·exact .inl ⟨a,(YD hv b a).1,abO hv b a⟩
  ·exact .inr ⟨a,b⟩
 ·rw[br h];exact .inr ⟨by decide,rfl⟩
def CA:List (List UInt8)→List Nd→List Nd×Int
 | [],t=>(t,0)
 | s::r,t=>if(qb t s).2=0 then CA r (qb t s).1 else([],(qb t s).2)
theorem abP:∀(r:List (List UInt8)) (s:List UInt8) (t u:List Nd),CA r t=(u,0)→CA (r++[s]) t=if(qb u s).2=0 then((qb u s).1,0) else([],(qb u s).2):=by
 intro r;induction r with
 | nil =>
   intro s t u h;have:t=u:=congrArg Prod.fst h;subst this;rfl
 | cons a r ih =>
   intro s t u h;rw[Mm];unfold CA at h⊢;by_cases h0:(qb t a).2=0
   ·rw[bu h0] at h⊢;exact ih s _ u h
   ·rw[br h0] at h;exact absurd (congrArg Prod.snd h) h0
end Go.Ge
namespace Go.Ge
variable [Lp]
theorem Rx(b:List UInt8)(hb:b.length≤100000):wL (b,())=some (decide (b.length=512∧∀x∈b,x=0),()):=by
 have e0:∀y:UInt8,bI (u8 y) 0=decide (y=0):=fun y=>E6 (n:=0);have h:=aeX (f:=jJ (b,())) b (fun i=>((false,((i:Int),())),())) (fun x=>!decide (x=0)) (fun j=>(1,((false,((j:Int),())),()))) (0,((false,((b.length:Int),())),())) (fun i x hx=>by
  have hi:=aI hx;unfold jJ;dsimp only;rw[au hi,ag,aB hx,aa,e0,aY (by omega)];cases decide (x=0)<;>rfl) (by
  unfold jJ;dsimp only;rw[aE,af]) b.length 0 (by omega)
 unfold wL;rcases h with ⟨j,x,_,hx,hp,_,hL⟩|⟨ha,hL⟩
 ·rw[show Loop (jJ (b,())) ((false,((0:Int),())),())=_ from hL,aa,kN,af];have hx0:x≠0:=by simpa using hp
  rw[dJ fun q:b.length=512∧∀x∈b,x=0=>hx0 (q.2 x (gm hx))]
 ·rw[show Loop (jJ (b,())) ((false,((0:Int),())),())=_ from hL,aa,cv,ag];have hall:∀x∈b,x=0:=fun x hx=>by
   obtain⟨i,hi⟩:=bJ.1 hx;simpa using ha i x (rT _) hi
  have:bI (len b) 512=decide (b.length=512∧∀x∈b,x=0):=by
   unfold bI len;apply decide_eq_decide.2;constructor
   ·intro h;exact⟨by omega,hall⟩
   ·intro h;omega
  rw[this]
theorem abQ(b:List UInt8)(hb:b.length≤100000):wM (b,())=some (decide (1024≤b.length∧b.length % 512=0∧∀x∈b,x=0),()):=by
 have e0:∀y:UInt8,bI (u8 y) 0=decide (y=0):=fun y=>E6 (n:=0);have h:=aeX (f:=jK (b,())) b (fun i=>((false,((i:Int),())),())) (fun x=>!decide (x=0)) (fun j=>(1,((false,((j:Int),())),()))) (0,((false,((b.length:Int),())),())) (fun i x hx=>by
  have hi:=aI hx;unfold jK;dsimp only;rw[au hi,ag,aB hx,aa,e0,aY (by omega)];cases decide (x=0)<;>rfl) (by
  unfold jK;dsimp only;rw[aE,af]) b.length 0 (by omega)
 unfold wM;dsimp only;by_cases h1:1024≤b.length
 case neg =>
  rw[aT (by rw[bX];omega),aJ,af,aa,ag,dJ fun q:1024≤b.length∧b.length % 512=0∧∀x∈b,x=0=>h1 q.1]
 rw[aH (by rw[bX];omega),aF,ag,show bI 512 0=false from rfl,af,show jz (len b) 512=((b.length % 512:Nat):Int) from rfl];by_cases h2:b.length % 512=0
 case neg =>
  rw[aM (by omega),aF,aa,ag,dJ fun q:1024≤b.length∧b.length % 512=0∧∀x∈b,x=0=>h2 q.2.1]
 rw[aP (by omega),aJ,aa,af];rcases h with ⟨j,x,_,hx,hp,_,hL⟩|⟨ha,hL⟩
 ·rw[show Loop (jK (b,())) ((false,((0:Int),())),())=_ from hL,aa,kN,af];have hx0:x≠0:=by simpa using hp
  rw[dJ fun q:1024≤b.length∧b.length % 512=0∧∀x∈b,x=0=>hx0 (q.2.2 x (gm hx))]
 ·rw[show Loop (jK (b,())) ((false,((0:Int),())),())=_ from hL,aa,cv,ag];have hall:∀x∈b,x=0:=fun x hx=>by
   obtain⟨i,hi⟩:=bJ.1 hx;simpa using ha i x (rT _) hi
  rw[fo (⟨h1,h2,hall⟩:1024≤b.length∧b.length % 512=0∧∀x∈b,x=0)]
abbrev PS:=(List UInt8×(List Pt×(Bool×(Unit×Unit))))×(List Pt×Unit)
def ps0(r:List UInt8)(out:List Pt):PS:=((r,(([]:List Pt),(false,((),())))),(out,()))
theorem Ry(r:List UInt8)(out:List Pt)(hl:r.length≤8192):∃p ok st,bY ((),(rd r (out.length:Int),()))=some ((p,(ok,())),(st,())) ∧
  ((ok=false∧∃b z,st=Dr (out.length:Int) b∧eC (ps0 r out)=some (.inr z)∧((z.1=0∧b=true)∨(z.1=1∧z.2.1.2.1=out∧z.2.1.2.2.1=!b))) ∨
   (ok=true∧∃r',st=rd r' ((out.length+1:Nat):Int)∧r'.length+512≤r.length∧out.length<64∧eC (ps0 r out)=some (.inl (ps0 r' (out++[p]))))):=by
 by_cases aiS:r.length<512
 ·refine⟨_,_,_,N4 r out.length aiS,.inl ⟨rfl,true,(0,ps0 r out),rfl,?_,.inl ⟨rfl,rfl⟩⟩⟩;unfold eC ps0;dsimp only;rw[fU (by rw[bX];omega),af]
 have ht:(r.take 512).length=512:=by rw[cW];omega
 have hin:inside (0:Int) (512:Int) (len r)=true:=bq (by decide) (by decide) (by rw[bX];omega);by_cases hz:∀x∈r.take 512,x=0
 ·refine⟨_,_,_,JG r out.length (by omega) (by omega) hz,.inl ⟨rfl,_,(1,((r,(out,(decide (1024≤r.length∧r.length % 512=0∧∀x∈r,x=0),((),())))),(out,()))),rfl,?_,.inr ⟨rfl,rfl,by simp⟩⟩⟩;unfold eC ps0;dsimp only;rw[cE (by rw[bX];omega),ag,hin,ag,show sub r 0 (minus 512 0)=r.take 512 from kY r 512,Rx _ (by omega),aa,fo (⟨ht,hz⟩:(r.take 512).length=512∧∀x∈r.take 512,x=0),ag,abQ r (by omega),aa]
 have e:=fun b=>HW r (out.length:Int) b;obtain⟨x,er,t1,t2⟩:=ZR (r.take 512) ht;have t3:=(take_same (r.take 512) ht).trans t1;have hdl:(r.drop 512).length=r.length-512:=qV;unfold bY eC ps0;dsimp only[rd] at e⊢;rw[aJ,aF,ag,af,aH (by rw[bX];omega),af,hin,ag,show sub r 0 (minus 512 0)=r.take 512 from kY r 512];rw[NT (r.take 512) (by omega),aa,cE (a:=512) (b:=len r) (by rw[bX];omega),ag,ag,Rx _ (by omega),aa];dsimp only;rw[dJ (fun q:(r.take 512).length=512∧∀x∈r.take 512,x=0=>hz q.2),af,af,ag,ag,t1,t3,aa,aa,bq (i:=512) (j:=len r) (n:=len r) (by decide) (by rw[bX];omega) (EH _),ag,show sub r 512 (minus (len r) 512)=r.drop 512 from sw r 512 (by omega)];dsimp only;by_cases he:er=0
 case neg =>
  rw[aM he,aF,ag,e,aa];exact⟨_,_,_,rfl,.inl ⟨rfl,_,_,rfl,rfl,.inr ⟨rfl,rfl,rfl⟩⟩⟩
 rw[aP he,aJ,af];have hok:=t2 he;obtain⟨s0,s1⟩:=hok.2.2.2.1;obtain⟨k,hk⟩:=acB s0;rw[hk];by_cases h8:8192<k
 ·rw[aT (a:=len (r.drop 512)) (by rw[bX];omega),ag,e,aa,aT (a:=8192) (b:=(k:Int)) (by omega)];exact⟨_,_,_,rfl,.inl ⟨rfl,_,_,rfl,rfl,.inr ⟨rfl,rfl,rfl⟩⟩⟩
 have hf:=VO k;rw[aH (a:=8192) (b:=(k:Int)) (by omega),show mX ((k:Int),())=_ from VS k (by omega),aa];dsimp only;rw[show aL .i64 512 ((k+nP k:Nat):Int)=((512+(k+nP k):Nat):Int) from xQ (a:=512) (by omega)];by_cases h1:(r.drop 512).length<k
 ·rw[aT (a:=len (r.drop 512)) (by rw[bX];omega),ag,e,aa,aT (a:=len r) (by rw[bX];omega)];exact⟨_,_,_,rfl,.inl ⟨rfl,_,_,rfl,rfl,.inr ⟨rfl,rfl,rfl⟩⟩⟩
 ·rw[aH (a:=len (r.drop 512)) (by rw[bX];omega),af,VP k (by omega),aa,fJ (a:=(k:Int)) (by omega) (by omega)];dsimp only;by_cases h2:(r.drop 512).length<k+nP k
  ·rw[aT (a:=len (r.drop 512)) (by rw[bX];omega),ag,e,aa,aT (a:=len r) (by rw[bX];omega)];exact⟨_,_,_,rfl,.inl ⟨rfl,_,_,rfl,rfl,.inr ⟨rfl,rfl,rfl⟩⟩⟩
  ·rw[aH (a:=len (r.drop 512)) (by rw[bX];omega),af,aH (a:=len r) (by rw[bX];omega)];by_cases h3:64≤out.length
   ·rw[cE (b:=(out.length:Int)) (by omega),ag,e,aa,cE (b:=len out) (by rw[bX];omega)];exact⟨_,_,_,rfl,.inl ⟨rfl,_,_,rfl,rfl,.inr ⟨rfl,rfl,rfl⟩⟩⟩
   ·rw[fU (b:=(out.length:Int)) (by omega),af,aa,fJ (a:=(k:Int)) (by omega) (by omega),bq (i:=(k:Int)+(nP k:Int)) (by omega) (by rw[bX];omega) (EH _),ag,bq (i:=0) (j:=(k:Int)) (by omega) (by omega) (by rw[bX];omega),ag];rw[show sub (r.drop 512) 0 (minus (k:Int) 0)=(r.drop 512).take k from kY _ k,show(k:Int)+(nP k:Int)=((k+nP k:Nat):Int) by omega,sw _ (k+nP k) (by omega),aY (by omega)];rw[fU (b:=len out) (by rw[bX];omega)];have es:sub r 512 (minus ((512+k:Nat):Int) 512)=(r.drop 512).take k:=by
     unfold sub minus;rw[show(((512+k:Nat):Int)-512).toNat=k by omega];rfl
    refine⟨_,_,_,rfl,.inr ⟨rfl,_,rfl,?_,by omega,?_⟩⟩
    ·rw[qV];omega
    ·rw[show aL .i64 512 ((k:Nat):Int)=((512+k:Nat):Int) from xQ (a:=512) (by omega),es];rw[show aj (nt (aj (nt false) false true)) (some false) (some true)=some false from rfl];rw[aa,aF,ag,af,bq (i:=512) (by decide) (by omega) (by rw[bX];omega),ag,cG (by simp only[ep,ig];omega),ag,aa];dsimp only;rw[show aL .i64 512 ((k+nP k:Nat):Int)=((512+(k+nP k):Nat):Int) from xQ (a:=512) (by omega),bq (by omega) (by rw[bX];omega) (EH _),ag,sw r (512+(k+nP k)) (by omega),zw];rfl
theorem abR:∀(m:Nat) (r:List UInt8) (out:List Pt) (p:Pt),r.length≤m→r.length≤8192→out.length≤63 →
  ∃(out':List Pt) (p':Pt) (b:Int×Bool) (z:Nat×PS),Loop iL (((),((),(true,()))),(p,(out,(rd r ((out.length+1:Nat):Int),()))))=some (((),((),(false,()))),(p',(out',(Dr b.1 b.2,())))) ∧
   Loop eC (ps0 r (out++[p]))=some z∧((z.1=0∧b.2=true)∨(z.1=1∧z.2.1.2.1=out'∧z.2.1.2.2.1=!b.2)):=by
 intro m;induction m using Nat.strongRecOn with
 | _ m ih =>
   intro r out p hm hr h63;obtain⟨p1,ok1,st1,h1,h2⟩:=Ry r (out++[p]) hr;have hlen:((out++[p]).length:Int)=((out.length+1:Nat):Int):=by simp
   rw[hlen] at h1;have hstep:=Rn p out (rd r ((out.length+1:Nat):Int)) (by omega) h1;rcases h2 with ⟨rfl,b,z,rfl,k1,k2⟩|⟨rfl,r',rfl,k3,k5,k4⟩
   ·refine⟨out++[p],p1,(((out++[p]).length:Int),b),z,?_,by rw[aX,k1];rfl,k2⟩;rw[aX,hstep];show Loop _ _=_
    rw[aX,w9];rfl
   ·obtain⟨o,p',b,z,z1,z2,z3⟩:=ih r'.length (by omega) r' (out++[p]) p1 (cU _) (by omega) (by omega);exact⟨o,p',b,z,by rw[aX,hstep];exact z1,by rw[aX,k4];exact z2,z3⟩
theorem Rz(s:List UInt8):l9 (s,())=kC (s,()):=by
 by_cases h8:8192<s.length
 ·rw[Ro s h8];unfold l9 uO;dsimp only;rw[aT (by rw[bX];omega),ag,aa];rfl
 obtain⟨p,ok,st,h1,h2⟩:=Ry s [] (by omega);have fin:∀(b:Int×Bool) (o:List Pt),(ah (lg ((),(Dr b.1 b.2,()))) fun y3=>aj y3.1.1 (some (([]:List Pt),((10:Int),()))) (some (o,((0:Int),()))))=some (if b.2=true then(([]:List Pt),((10:Int),())) else(o,((0:Int),()))):=fun b o=>by
  obtain⟨b1,b2⟩:=b;cases b2<;>rfl
 have parts:∀(o:List Pt) (b:Bool) (z:Nat×PS),Loop eC (ps0 s [])=some z→((z.1=0∧b=true)∨(z.1=1∧z.2.1.2.1=o∧z.2.1.2.2.1=!b))→l9 (s,())=some (if b=true then(([]:List Pt),((10:Int),())) else(o,((0:Int),()))):=fun o b z hz hc=>by
  unfold l9 uO;dsimp only;rw[aH (by rw[bX];omega),af,show Loop eC ((s,(([]:List Pt),(false,((),())))),(([]:List Pt),()))=_ from hz,aa];rcases hc with ⟨c1,c2⟩|⟨c1,c2,c3⟩
  ·rw[c1,cv,ag,aa,c2];rfl
  ·rw[c1,kN,af,aa,c2,c3];cases b<;>rfl
 have e0:(([]:List Pt).length:Int)=0:=rfl;unfold kC;dsimp only;rw[aH (by rw[bX];omega),show bY ((),((true,(s,((0:Int),(false,(false,()))))),()))=_ from h1,aa];dsimp only;rcases h2 with ⟨rfl,b,z,rfl,k1,k2⟩|⟨rfl,r',rfl,k3,k5,k4⟩
 ·rw[aX,w9];show _=(ah (lg ((),(Dr _ _,()))) fun y3=>aj y3.1.1 (some (([]:List Pt),((10:Int),()))) (some (([]:List Pt),((0:Int),()))))
  rw[fin (_,b),parts [] b z (by rw[aX,k1];rfl) k2]
 ·obtain⟨o,p',b,z,z1,z2,z3⟩:=abR r'.length r' [] p (cU _) (by omega) (by simp);rw[show Loop iL (((),((),(true,()))),(p,(([]:List Pt),(rd r' ((([]:List Pt).length+1:Nat):Int),()))))=_ from z1,aa];dsimp only;rw[fin b o];exact parts o b.2 z (by rw[aX,k4];exact z2) z3
theorem DG(s:List UInt8):qo (s,())=some (if(Fc s).2=0∧lI (Fc s).1=true then 0 else 10,()):=by
 obtain⟨r1,r2⟩:=ZZ s;unfold qo;dsimp only;rw[Rz s,r1,aa];dsimp only;rw[DD _ r2,aa];dsimp only;by_cases he:(Fc s).2=0
 ·rw[aP he];by_cases ha:lI (Fc s).1=true
  ·rw[ha,bu ⟨he,rfl⟩];rfl
  ·have ha2:lI (Fc s).1=false:=by simpa using ha
   rw[ha2,br (fun q:(Fc s).2=0∧false=true=>Bool.noConfusion q.2)];rfl
 ·rw[aM he,br (fun q:(Fc s).2=0∧lI (Fc s).1=true=>he q.1)];rfl
theorem V9{l:List Nd}(hv:Valid l){ps:List Pt}(ha:¬lI ps=true):pV l ps=([],10):=by unfold pV;rw[bu hv,br ha]
end Go.Ge
namespace Go.Ge
variable [Lp]
def OX(ls:List aG)(id:Tx):Option Nat:=ls.findIdx? fun x=>decide (x.1=id)
def JM(ls:List aG)(id:Tx):Int:=match OX ls id with|some i=>(i:Int)|none=>-1
theorem ae7{ls:List aG}{id:Tx}{i:Nat}{x:aG}(hx:ls[i]?=some x)(hp:x.1=id)(hj:∀(j:Nat) (y:aG),j<i→ls[j]?=some y→decide (y.1=id)=false):OX ls id=some i:=by
 unfold OX;rw[acr];have hlt:=aI hx;refine⟨hlt,?_,fun j hji=>?_⟩
 ·rw[kL hlt] at hx;rw[aN hx,fo hp]
 ·have:=hj j ls[j] hji (kL (by omega));rw[this];simp
theorem Oj{ls:List aG}{id:Tx}(hn:∀(i:Nat) (x:aG),ls[i]?=some x→decide (x.1=id)=false):OX ls id=none:=by
 unfold OX;rw[acv];intro x hx;obtain⟨i,hi⟩:=bJ.1 hx;exact hn i x hi
theorem YF{ls:List aG}{id:Tx}{i:Nat}(h:OX ls id=some i):∃x,ls[i]?=some x∧x.1=id:=by
 unfold OX at h;rw[acr] at h;obtain⟨h1,h2,_⟩:=h;exact⟨ls[i],kL h1,ic h2⟩
theorem Tk{ls:List aG}{id:Tx}:(∃i,OX ls id=some i)↔∃x∈ls,x.1=id:=by
 constructor
 ·rintro⟨i,h⟩;obtain⟨x,hx,he⟩:=YF h;exact⟨x,gm hx,he⟩
 ·rintro⟨x,hx,he⟩;cases h:OX ls id with
  | some i=>exact⟨i,rfl⟩
  | none =>
    unfold OX at h;rw[acv] at h;have:=h x hx;simp[he] at this
theorem ae8{ls:List aG}{id:Tx}:JM ls id<0↔¬∃x∈ls,x.1=id:=by
 rw[←Tk];unfold JM;cases h:OX ls id with
 | none=>simp
 | some i=>simp only[vJ,exists_eq',not_true_eq_false,iff_false];omega
theorem RA{f:(Int×Int×Unit)×Unit→Option (((Int×Int×Unit)×Unit)⊕(Nat×(Int×Int×Unit)×Unit))}(ls:List aG)(id:Tx)(hl:ls.length≤1000000)
  (hf:∀c i:Int,f ((c,(i,())),())=aj (bB i (len ls)) (ah (idx ls i) fun y=>aj (cc y.1 id) (some (.inr (1,((i,(i,())),())))) (some (.inl ((c,(aL .i64 i 1,())),())))) (some (.inr (0,((c,(i,())),()))))) :
  ah (Loop f (((0:Int),((0:Int),())),())) (fun y1=>aj (fT y1.1 0) (some ((-1:Int),())) (some (y1.2.1.1,())))=some (JM ls id,()):=by
 rcases p8 (f:=f) ls (fun i=>(((0:Int),(i,())),())) (fun _ x=>decide (x.1=id)) (fun i x=>(1,(((i:Int),((i:Int),())),()))) (0,(((0:Int),(len ls,())),())) (by omega) (fun i x hx hi ha=>by
  rw[hf,au hi,ag,aB hx,aa,iB,ha];by_cases h:x.1=id<;>simp[cc,h]) (by rw[hf,aE,af];rfl) with ⟨i,x,hx,hp,hj,h⟩|⟨hn,h⟩
 ·rw[h,aa];unfold JM;rw[ae7 hx (ic hp) hj];rfl
 ·rw[h,aa];unfold JM;rw[Oj hn];rfl
theorem Ol(ls:List aG)(id:Tx)(hl:ls.length≤1000000):BB (ls,(id,()))=some (JM ls id,()):=RA ls id hl fun c i=>rfl
theorem Om(s:aV)(id:Tx)(hl:s.2.2.1.length≤1000000):mg (s,(id,()))=some (JM s.2.2.1 id,()):=RA s.2.2.1 id hl fun c i=>rfl
def Gt(ls:List aG):Nat→Tx→List aG→List aG×Int
 | n,id,acc=>match OX ls id with
   | none=>([],3)
   | some i=>match n,ls[i]? with
     | 0,_=>([],5)
     | n+1,some x=>if x.2.1=[] then(acc++[x],0) else Gt ls n x.2.1 (acc++[x])
     | _,none=>([],3)
def bV(ls:List aG)(id:Tx):List aG×Int:=Gt ls 16 id []
theorem YG(ls:List aG)(id0:Tx)(hl:ls.length≤1000000):∀(n:Nat) (id:Tx) (acc:List aG) (k:Nat),n+k=16→acc.length≤k →
  ∃q1 q2 q3,Loop (lF (ls,(id0,()))) ((id,(([]:List aG),((0:Int),((),((k:Int),()))))),(acc,()))=some (1,((q1,((Gt ls n id acc).1,((Gt ls n id acc).2,q2))),q3)):=by
 intro n;induction n with
 | zero =>
   intro id acc k hk ha;rw[aX];unfold lF;dsimp only;rw[cE (by omega),ag,Ol ls id hl,aa];dsimp only;unfold Gt JM;cases h:OX ls id with
   | none=>exact⟨_,_,_,rfl⟩
   | some i =>
     dsimp only;rw[aH (by omega),af,aP (by omega),ag];exact⟨_,_,_,rfl⟩
 | succ n ih =>
   intro id acc k hk ha;rw[aX];unfold lF;dsimp only;rw[cE (by omega),ag,Ol ls id hl,aa];dsimp only;unfold Gt JM;cases h:OX ls id with
   | none=>exact⟨_,_,_,rfl⟩
   | some i =>
     obtain⟨x,hx,he⟩:=YF h;dsimp only;rw[aH (by omega),af,aM (by omega),af,aB hx,aa,show fits (plus (@len aG acc) (@len aG ([x]:List aG)))=true from cG (by show _+1≤_;omega),ag,aa,hx];dsimp only;rw[gj];by_cases hp:x.2.1=[]
     ·rw[fo hp,ag,bu hp];exact⟨_,_,_,rfl⟩
     ·rw[dJ hp,af,br hp,aa,aY (by omega)];have:=ih x.2.1 (acc++[x]) (k+1) (by omega) (by rw[iO];show _+1≤_;omega);exact this
theorem RB(ls:List aG)(id:Tx)(hl:ls.length≤1000000):qt (ls,(id,()))=some ((bV ls id).1,((bV ls id).2,())):=by
 unfold qt;dsimp only;obtain⟨q1,q2,q3,h⟩:=YG ls id hl 16 id [] 0 rfl (cU _);have h':Loop (lF (ls,(id,()))) ((id,(([]:List aG),((0:Int),((),((0:Int),()))))),(([]:List aG),()))=_:=h;rw[h',aa];rfl
theorem ag1{ls:List aG}:∀{n:Nat} {id:Tx} {acc:List aG},(∀x∈acc,x∈ls)→(∀x∈(Gt ls n id acc).1,x∈ls)∧(Gt ls n id acc).1.length≤n+acc.length:=by
 intro n;induction n with
 | zero =>
   intro id acc h;unfold Gt;cases OX ls id<;>simp
 | succ n ih =>
   intro id acc h;unfold Gt;cases hl:OX ls id with
   | none=>simp
   | some i =>
     dsimp only;cases hx:ls[i]? with
     | none=>simp
     | some x =>
       dsimp only;have h2:∀y∈acc++[x],y∈ls:=fun y hy=>by
        rcases List.mem_append.1 hy with hy|hy
        ·exact h y hy
        ·rw[Cw] at hy;subst hy;exact gm hx
       split
       ·exact⟨h2,by rw[iO];show _+1≤_;omega⟩
       ·obtain⟨a,b⟩:=ih (id:=x.2.1) h2;refine⟨a,?_⟩;rw[iO] at b;have:([x]:List aG).length=1:=rfl;omega
theorem Ew{ls:List aG}{id:Tx}:(∀x∈(bV ls id).1,x∈ls)∧(bV ls id).1.length≤16:=by
 obtain⟨a,b⟩:=ag1 (ls:=ls) (n:=16) (id:=id) (acc:=[]) (fun x hx=>by cases hx);exact⟨a,by unfold bV;simpa using b⟩
theorem YH{l:List Nd}(hv:Valid l)(s:List UInt8):uP (l,(s,()))=some ((qb l s).1,((qb l s).2,())):=by
 obtain⟨r1,r2⟩:=ZZ s;obtain⟨v,v1,v2⟩:=uc l (vB hv);unfold uP;dsimp only;rw[v1,aa,v2.2 hv];dsimp only;rw[aJ,af,DG s,aa,Rz s,r1];dsimp only;unfold qb;by_cases he:(Fc s).2=0
 ·rw[bu he];by_cases ha:lI (Fc s).1=true
  ·rw[bu (⟨he,ha⟩:(Fc s).2=0∧lI (Fc s).1=true),show nt (bI 0 0)=false from rfl,af,aa,YA l _ (vB hv) r2,aa]
  ·rw[br (fun q:(Fc s).2=0∧lI (Fc s).1=true=>ha q.2),V9 hv ha];rfl
 ·rw[br he,br (fun q:(Fc s).2=0∧lI (Fc s).1=true=>he q.1)];rfl
theorem abS(ds:List Tx)(hl:ds.length≤1000000):yZ (ds,())=some ((CA ds []).1,((CA ds []).2,())):=by
 unfold yZ;have key:∀(r:List Tx) (t:List Nd) (k:Nat),ds=ds.take k++r→k+r.length=ds.length→Valid t→∃q,(Loop (gK (ds,())) ((([]:List Nd),((0:Int),(t,((k:Int),())))),())=some (1,((([]:List Nd),((CA r t).2,q)),()))∧(CA r t).1=[]) ∨
   ∃q1 q2 q3,Loop (gK (ds,())) ((([]:List Nd),((0:Int),(t,((k:Int),())))),())=some (0,((q1,(q2,((CA r t).1,q3))),()))∧(CA r t).2=0:=by
  intro r;induction r with
  | nil =>
    intro t k hk hlen hv;rw[ig,An] at hlen;refine⟨((t,((k:Int),())):List Nd×Int×Unit),.inr ⟨[],0,((k:Int),()),?_,rfl⟩⟩;rw[aX];unfold gK;dsimp only;rw[hlen,aE,af];rfl
  | cons d r ih =>
    intro t k hk hlen hv;rw[ep] at hlen;have hx:ds[k]?=some d:=by
     rw[hk,acq (by rw[cW];omega),cW];simp[vK (show k≤ds.length by omega)]
    have step:gK (ds,()) ((([]:List Nd),((0:Int),(t,((k:Int),())))),())=some (if(qb t d).2=0 then .inl ((([]:List Nd),((0:Int),((qb t d).1,(((k+1:Nat):Int),())))),()) else .inr (1,((([]:List Nd),((qb t d).2,(t,((k:Int),())))),()))):=by
     unfold gK;dsimp only;rw[au (by omega),ag,aB hx,aa,YH hv d,aa,aY (by omega)];dsimp only;by_cases h0:(qb t d).2=0
     ·rw[aP h0,aJ,af,bu h0]
     ·rw[aM h0,aF,ag,br h0]
    rw[aX,step];unfold CA;by_cases h0:(qb t d).2=0
    ·rw[bu h0,bu h0];have QO:Valid (qb t d).1:=by
      rcases Rw hv d with ⟨_,h,_⟩|⟨h,_⟩
      ·exact h
      ·exact absurd h0 h
     exact ih (qb t d).1 (k+1) (by rw[TQ,hx];simpa using hk) (by omega) QO
    ·rw[br h0,br h0];exact⟨(t,((k:Int),())),.inl ⟨rfl,rfl⟩⟩
 have hv0:Valid []:=HX aeS.1;obtain⟨q,⟨h,h1⟩|⟨q1,q2,q3,h,h1⟩⟩:=key ds [] 0 (by simp) (by simp) hv0
 ·have h':Loop (gK (ds,())) ((([]:List Nd),((0:Int),(([]:List Nd),((0:Int),())))),())=_:=h;rw[h',aa,h1];rfl
 ·have h':Loop (gK (ds,())) ((([]:List Nd),((0:Int),(([]:List Nd),((0:Int),())))),())=_:=h;rw[h',aa,h1];rfl
end Go.Ge
namespace Go.Ge
variable [Lp]
def EP(ls:List aG)(ds:List Tx)(id:Tx):Tx:=match OX ls id with|some i=>(ds[i]?).getD []|none=>[]
def j9(ls:List aG)(ds:List Tx)(id:Tx):List Nd×Int :=
 if(bV ls id).2=0 then CA ((bV ls id).1.reverse.map fun x=>EP ls ds x.1) [] else([],(bV ls id).2)
theorem YI(s:aV)(i:Nat):wN (s,((i:Int),()))=some ((s.2.2.2.1[i]?).getD [],()):=by
 unfold wN;dsimp only;by_cases h:i<s.2.2.2.1.length
 ·have hx:s.2.2.2.1[i]?=some s.2.2.2.1[i]:=kL h;rw[au h,ag,aB hx,aa,hx];rfl
 ·have hx:s.2.2.2.1[i]?=none:=TN (by omega);rw[aH (by unfold len;omega),af,hx];rfl
theorem YJ(s:aV)(id:Tx)(hl:s.2.2.1.length≤1000000):wO (s,(id,()))=some ((j9 s.2.2.1 s.2.2.2.1 id).1,((j9 s.2.2.1 s.2.2.2.1 id).2,())):=by
 obtain⟨hm,h16⟩:=Ew (ls:=s.2.2.1) (id:=id);unfold wO j9;dsimp only;rw[RB _ id hl,aa];dsimp only;by_cases h0:(bV s.2.2.1 id).2=0
 ·rw[aP h0,aJ,af,bu h0];generalize (bV s.2.2.1 id).1=c at hm h16;generalize hq:(c,((bV s.2.2.1 id).2,()))=q;have hq1:q.1=c:=by rw[←hq]
  have key:∀(n:Nat) (acc:List Tx),n≤c.length→acc.length+n≤1000→∃z,Loop (mM (s,(id,())) q) (((),((n:Int)-1,())),(acc,()))=some (z,(acc++(c.take n).reverse.map fun x=>EP s.2.2.1 s.2.2.2.1 x.1,())):=by
   intro n;induction n with
   | zero =>
     intro acc _ _;refine⟨((),((0:Nat):Int)-1,()),?_⟩;rw[aX];unfold mM;dsimp only;rw[fU (by omega),af];simp[eP]
   | succ n ih =>
     intro acc hn ha;obtain⟨x,hx⟩:∃x,c[n]?=some x:=⟨_,kL (show n<c.length by omega)⟩;obtain⟨i,hi⟩:=Tk.2 ⟨x,hm x (gm hx),rfl⟩;have hd:EP s.2.2.1 s.2.2.2.1 x.1=(s.2.2.2.1[i]?).getD []:=by unfold EP;rw[hi]
     obtain⟨z,hz⟩:=ih (acc++[EP s.2.2.1 s.2.2.2.1 x.1]) (by omega) (by rw[iO];show _+1+n≤_;omega);refine⟨z,?_⟩;have step:mM (s,(id,())) q (((),((n:Int),())),(acc,()))=some (.inl (((),((n:Int)-1,())),(acc++[EP s.2.2.1 s.2.2.2.1 x.1],()))):=by
      unfold mM;dsimp only;rw[cE (by omega),ag,hq1,aB hx,aa,Om s x.1 hl,aa];dsimp only;rw[show JM s.2.2.1 x.1=(i:Int) by unfold JM;rw[hi],YI s i,aa,←hd];dsimp only;rw[show fits (plus (@len Tx acc) (@len Tx ([EP s.2.2.1 s.2.2.2.1 x.1]:List Tx)))=true from cG (by show _+1≤_;omega),ag,eT (by omega) (by omega)];rfl
     rw[show((n+1:Nat):Int)-1=(n:Int) by omega,aX,step];refine yB hz ?_;rw[TQ,hx];simp
  obtain⟨z,hz⟩:=key c.length [] (cU _) (by simp;omega);have hlen:ef .i64 (len c) 1=(c.length:Int)-1:=eT (by unfold len;omega) (by unfold len;omega);rw[hlen,hz,aa];dsimp only;rw[GJ,zu,abS _ (by rw[Mp,acJ];omega),aa]
 ·rw[aM h0,aF,ag,br h0]
def DH(s:Tx):Prop:=(Fc s).2=0∧lI (Fc s).1=true
structure xY (ls:List aG) (ds:List Tx):Prop where
 same:ds.length=ls.length
 chain:∀x∈ls,(bV ls x.1).2=0
 each:∀(i:Nat) (x:aG) (d:Tx),ls[i]?=some x→ds[i]?=some d→x.2.2.2.2.2.2.1=true∧x.2.2.2.2.2.1=0∧x.2.2.2.2.1=(d.length:Int)∧x.2.2.2.1=zN d∧DH d∧(j9 ls ds x.1).2=0
open Classical in
theorem Tl(s:aV)(hl:s.2.2.1.length≤100)(hd:∀d∈s.2.2.2.1,d.length≤8192):∃b,sO (s,())=some (b,())∧(b=true↔xY s.2.2.1 s.2.2.2.1):=by
 have amU:uR (s.2.2.1,())=some (if(∀x∈s.2.2.1,(bV s.2.2.1 x.1).2=0) then 0 else 2,()):=by
  unfold uR;rcases p8 (f:=pT (s.2.2.1,())) s.2.2.1 (fun i=>(((0:Int),(i,())),())) (fun _ x=>decide ((bV s.2.2.1 x.1).2≠0)) (fun i x=>(1,(((2:Int),((i:Int),())),()))) (0,(((0:Int),(len s.2.2.1,())),())) (by omega) (fun i x hx hi ha=>by
   unfold pT;dsimp only;rw[au hi,ag,aB hx,aa,RB _ x.1 (by omega),aa,ha];dsimp only;by_cases h:(bV s.2.2.1 x.1).2=0
   ·rw[aP h];simp[h,nt,aj]
   ·rw[aM h];simp[h,nt,aj]) (by unfold pT;dsimp only;rw[aE,af];rfl) with ⟨i,x,hx,hp,_,h⟩|⟨hn,h⟩
  ·rw[h,aa,br (fun q=>by simp[q x (gm hx)] at hp)];rfl
  ·rw[h,aa,bu (fun x hx=>by
   obtain⟨i,hi⟩:=bJ.1 hx;have:=hn i x hi;simpa using this)];rfl
 unfold sO;dsimp only;rw[amU,aa];by_cases hsame:s.2.2.2.1.length=s.2.2.1.length
 ·rw[aP (show @len Tx s.2.2.2.1=@len aG s.2.2.1 by unfold len;omega),aJ,aF,ag,aa];by_cases hch:∀x∈s.2.2.1,(bV s.2.2.1 x.1).2=0
  ·rw[bu hch,show nt (bI (0:Int) 0)=false from rfl,af];obtain⟨bad,yw⟩:∃bad:Nat→aG→Prop,∀i x,bad i x↔¬∃d,s.2.2.2.1[i]?=some d∧x.2.2.2.2.2.2.1=true∧x.2.2.2.2.2.1=0∧x.2.2.2.2.1=(d.length:Int)∧x.2.2.2.1=zN d∧DH d∧(j9 s.2.2.1 s.2.2.2.1 x.1).2=0:=⟨_,fun _ _=>Iff.rfl⟩;rcases p8 (f:=nM (s,())) s.2.2.1 (fun i=>((false,(i,())),())) (fun i x=>decide (bad i x)) (fun i x=>(1,((false,((i:Int),())),()))) (0,((false,(len s.2.2.1,())),())) (by omega) (fun i x hx hi ha=>by
    obtain⟨d,SL⟩:∃d,s.2.2.2.1[i]?=some d:=⟨_,kL (show i<s.2.2.2.1.length by omega)⟩;have hd8:=hd d (gm SL);unfold nM;dsimp only;rw[au hi,ag,au (by omega),ag,aB hx,aa,aB SL,aa,aa,Rg d (by omega),aa,aa,DG d,aa,YJ s x.1 (by omega),aa,ha];dsimp only;have hb:bad i x↔¬(x.2.2.2.2.2.2.1=true∧x.2.2.2.2.2.1=0∧x.2.2.2.2.1=(d.length:Int)∧x.2.2.2.1=zN d∧DH d∧(j9 s.2.2.1 s.2.2.2.1 x.1).2=0):=by
     rw[yw];constructor
     ·intro h q;exact h ⟨d,SL,q⟩
     ·rintro h ⟨d',e,q⟩;rw[SL] at e;obtain rfl:=aN e;exact h q
    by_cases h1:x.2.2.2.2.2.2.1=true
    rotate_left
    ·rw[bu (fo (hb.2 fun q=>h1 q.1)),show x.2.2.2.2.2.2.1=false by simpa using h1];rfl
    rw[h1,aJ,af];by_cases h2:x.2.2.2.2.2.1=0
    ·rw[aP h2,aJ,af];by_cases h3:x.2.2.2.2.1=(d.length:Int)
     ·rw[show bI x.2.2.2.2.1 (@len UInt8 d)=true from aP h3,aJ,af,gj];by_cases h4:x.2.2.2.1=zN d
      ·rw[fo h4,aJ,af];by_cases h5:DH d
       ·rw[bu (show(Fc d).2=0∧lI (Fc d).1=true from h5),show nt (bI (0:Int) 0)=false from rfl,af];by_cases h6:(j9 s.2.2.1 s.2.2.2.1 x.1).2=0
        ·rw[aP h6,aJ,af,br (by rw[Ml];exact fun q=>hb.1 q ⟨h1,h2,h3,h4,h5,h6⟩)]
        ·rw[aM h6,aF,ag,bu (fo (hb.2 fun q=>h6 q.2.2.2.2.2))]
       ·rw[br (show ¬((Fc d).2=0∧lI (Fc d).1=true) from h5),show nt (bI (10:Int) 0)=true from rfl,ag,bu (fo (hb.2 fun q=>h5 q.2.2.2.2.1))]
      ·rw[dJ h4,aF,ag,bu (fo (hb.2 fun q=>h4 q.2.2.2.1))]
     ·rw[show bI x.2.2.2.2.1 (@len UInt8 d)=false from aM h3,aF,ag,bu (fo (hb.2 fun q=>h3 q.2.2.1))]
    ·rw[aM h2,aF,ag,bu (fo (hb.2 fun q=>h2 q.2.1))]) (by
    unfold nM;dsimp only;rw[aE,af,af];rfl) with ⟨i,x,hx,hp,_,h⟩|⟨hn,h⟩
   ·rw[h,aa];refine⟨false,rfl,fun q=>(by cases q),fun q=>?_⟩;obtain⟨d,SL⟩:∃d,s.2.2.2.1[i]?=some d:=⟨_,kL (show i<s.2.2.2.1.length by have:=aI hx;omega)⟩;exact absurd ⟨d,SL,q.each i x d hx SL⟩ ((yw i x).1 (ic hp))
   ·rw[h,aa];refine⟨true,rfl,fun _=>⟨hsame,hch,fun i x d hx SL=>?_⟩,fun _=>rfl⟩;have:=hn i x hx;simp only[OZ,yw,Classical.not_not] at this;obtain⟨d',e,q⟩:=this;rw[SL] at e;obtain rfl:=aN e;exact q
  ·rw[br hch,show nt (bI (2:Int) 0)=true from rfl,ag];exact⟨false,rfl,fun q=>(by cases q),fun q=>absurd q.chain hch⟩
 ·rw[aM (show @len Tx s.2.2.2.1≠@len aG s.2.2.1 by unfold len;omega),aF,aJ,af,aa,ag];exact⟨false,rfl,fun q=>(by cases q),fun q=>absurd q.same hsame⟩
end Go.Ge
namespace Go.Ge
variable [Lp]
structure ER (s:aV):Prop where
 ll:s.2.2.1.length≤40
 il:s.2.1.length≤40
 bl:s.1.length≤40
 xl:∀x∈s.2.2.1,BdL x
 xi:∀x∈s.2.1,BdI x
 xb:∀x∈s.1,BdB x
 dl:∀d∈s.2.2.2.1,d.length≤8192
 ml:s.2.2.2.2.1.length≤1000000
theorem ER.akC{s:aV}(h:ER s):BdX (0,(s.2.2.1,([],([],())))) :=
 ⟨⟨h.ll,fun x hx=>(h.xl x hx).2.2.1,by simp,fun x hx=>(by cases hx),by simp,fun x hx=>(by cases hx)⟩,h.xl,fun x hx=>(by cases hx),fun x hx=>(by cases hx)⟩
theorem ER.akD{s:aV}(h:ER s):BdX (0,([],(s.2.1,([],())))) :=
 ⟨⟨by simp,fun x hx=>(by cases hx),h.il,fun x hx=>(h.xi x hx).2.1,by simp,fun x hx=>(by cases hx)⟩,fun x hx=>(by cases hx),h.xi,fun x hx=>(by cases hx)⟩
theorem ER.akE{s:aV}(h:ER s):BdX (0,([],([],(s.1,())))) :=
 ⟨⟨by simp,fun x hx=>(by cases hx),by simp,fun x hx=>(by cases hx),h.bl,fun x hx=>(h.xb x hx).2.1⟩,fun x hx=>(by cases hx),fun x hx=>(by cases hx),h.xb⟩
def On(s:aV)(x:fN):Prop:=x.2.2.1=[]∨∃y∈s.2.2.1,y.1=x.2.2.1
def xZ(s:aV)(x:fC):Prop:=(x.2.2.1=[]∨∃y∈s.2.1,y.1=x.2.2.1)∧∃y∈s.2.2.1,y.1=x.2.2.2.1
def Tm(s:aV)(x:zP):Prop:=(∃y∈s.2.2.1,y.1=x.1)∧1≤x.2.1∧x.2.1≤1000
structure ya (s:aV):Prop where
 b:nC 1 (0,([],([],(s.1,()))))
 i:nC 2 (0,([],(s.2.1,([],()))))
 l:nC 3 (0,(s.2.2.1,([],([],()))))
 lays:xY s.2.2.1 s.2.2.2.1
 YK:s.2.2.2.2.1.length≤32
 tops:∀x∈s.2.1,On s x
 refs:∀x∈s.1,xZ s x
 mts:∀x∈s.2.2.2.2.1,Tm s x
 RC:(s.2.2.2.2.1.map (·.1)).Pairwise fun x y=>jy x y=true
theorem aiY{p:Prop}[Decidable p](h:p):¬decide (¬p)=true:=by simpa using h
theorem aiZ{p:Prop}[Decidable p](h:¬p):decide (¬p)=true:=fo h
theorem ae9(s:aV)(x:fC)(hi:s.2.1.length≤1000000)(c:Bool):∃q,Loop (oP (s,()) x) ((c,((0:Int),())),())=some ((c||s.2.1.any (fun y=>decide (y.1=x.2.2.1)),q),()):=by
 obtain⟨t,_,h,ht⟩:=Jn (f:=oP (s,()) x) s.2.1 (fun(c:Bool) i=>((c,(i,())),())) (fun c _ y=>c||decide (y.1=x.2.2.1)) (fun c=>((c,((s.2.1.length:Int),())),())) (fun _ _=>True) (by omega) (fun c i y hy hi ha _=>by
  refine⟨?_,trivial⟩;unfold oP;dsimp only;rw[au hi,ag,ha];cases c with
  | true=>rfl
  | false =>
    rw[af,aB hy,aa,gj];by_cases q:y.1=x.2.2.1<;>simp[q,eP]) (fun c _=>by
  unfold oP;dsimp only;rw[aE,af];rfl) c trivial
 refine⟨((s.2.1.length:Int),()),h.trans ?_⟩;have:t=(c||s.2.1.any (fun y=>decide (y.1=x.2.2.1))):=by
  rw[ht];have key:∀(l:List fN) (k:Nat) (c:Bool),(l.zipIdx k).foldl (fun a p=>a||decide (p.1.1=x.2.2.1)) c=(c||l.any (fun y=>decide (y.1=x.2.2.1))):=by
   intro l;induction l with
   | nil=>intro k c;simp
   | cons y r ih=>intro k c;rw[List.zipIdx_cons,Ua,ih];simp[Zg]
  exact key _ _ _
 rw[this]
open Classical in
theorem JN(s:aV)(h:ER s):∃b,j7 (s,())=some (b,())∧(b=true↔ya s):=by
 have hll:=h.ll;obtain⟨e1,c1,f1⟩:=Dq 1 (0,([],([],(s.1,())))) (.inl rfl) rfl h.akE;obtain⟨e2,c2,f2⟩:=Dq 2 (0,([],(s.2.1,([],())))) (.inr (.inl rfl)) rfl h.akD;obtain⟨e3,c3,f3⟩:=Dq 3 (0,(s.2.2.1,([],([],())))) (.inr (.inr rfl)) rfl h.akC;obtain⟨b4,c4,f4⟩:=Tl s (by omega) h.dl;have e32:bB (32:Int) (@len zP s.2.2.2.2.1)=decide (32<s.2.2.2.2.1.length):=by unfold bB len;apply decide_eq_decide.2;omega
 unfold j7;dsimp only;rw[c1,aa,ua (by rw[c2,aa]),ua (by rw[c3,aa]),ua (by rw[c4,aa]),e32];by_cases g1:e1=0
 rotate_left
 ·rw[aM g1];exact⟨false,rfl,fun q=>(by cases q),fun q=>absurd (f1.2 q.b) g1⟩
 by_cases g2:e2=0
 rotate_left
 ·rw[aP g1,aM g2];exact⟨false,rfl,fun q=>(by cases q),fun q=>absurd (f2.2 q.i) g2⟩
 by_cases g3:e3=0
 rotate_left
 ·rw[aP g1,aP g2,aM g3];exact⟨false,rfl,fun q=>(by cases q),fun q=>absurd (f3.2 q.l) g3⟩
 by_cases g4:b4=true
 rotate_left
 ·have:b4=false:=by simpa using g4
  rw[aP g1,aP g2,aP g3,this];exact⟨false,rfl,fun q=>(by cases q),fun q=>absurd (f4.2 q.lays) g4⟩
 by_cases g5:32<s.2.2.2.2.1.length
 ·rw[aP g1,aP g2,aP g3,g4,fo g5];exact⟨false,rfl,fun q=>(by cases q),fun q=>by have:=q.YK;omega⟩
 rw[aP g1,aP g2,aP g3,g4,dJ g5];rw[show aj (nt (!(nt (!(nt (!(nt (nt true))||nt true))||nt true))||nt true)) false true=false from rfl,af];have hfind:∀id,mg (s,(id,()))=some (JM s.2.2.1 id,()):=fun id=>Om s id (by omega);have hneg:∀id,bB (JM s.2.2.1 id) 0=decide (¬∃y∈s.2.2.1,y.1=id):=fun id=>by unfold bB;exact decide_eq_decide.2 ae8
 rcases p8 (f:=sP (s,())) s.2.1 (fun i=>((false,(i,())),())) (fun _ x=>decide (¬On s x)) (fun i x=>(1,((false,((i:Int),())),()))) (0,((false,(len s.2.1,())),())) (by have:=h.il;omega) (fun i x hx hi ha=>by
  unfold sP;dsimp only;rw[au hi,ag,aB hx,aa,gj,ha];by_cases q:x.2.2.1=[]
  ·rw[fo q,aJ,af,br (aiY (show On s x from .inl q))]
  ·rw[dJ q,aF,ag,aa,hfind,aa,hneg];by_cases z:∃y∈s.2.2.1,y.1=x.2.2.1
   ·rw[dJ (fun w=>w z),af,br (aiY (show On s x from .inr z))]
   ·rw[fo z,ag,bu (aiZ (show ¬On s x by rintro(w|w);exact q w;exact z w))]) (by
  unfold sP;dsimp only;rw[aE,af];rfl) with ⟨i,x,hx,hp,_,hr⟩|⟨hn,hr⟩
 ·rw[hr,aa];exact⟨false,rfl,fun q=>(by cases q),fun q=>absurd (q.tops x (gm hx)) (ic hp)⟩
 have t1:∀x∈s.2.1,On s x:=fun x hx=>by
  obtain⟨i,hi⟩:=bJ.1 hx;have:=hn i x hi;simpa using this
 rw[hr,aa];dsimp only;rw[cv,ag];rcases p8 (f:=sQ (s,())) s.1 (fun i=>((false,(i,())),())) (fun _ x=>decide (¬xZ s x)) (fun i x=>(1,((false,((i:Int),())),()))) (0,((false,(len s.1,())),())) (by have:=h.bl;omega) (fun i x hx hi ha=>by
  obtain⟨q,hq⟩:=ae9 s x (by have:=h.il;omega) (cc x.2.2.1 []);unfold sQ;dsimp only;rw[au hi,ag,aB hx,aa,hq,aa,ha];dsimp only;rw[ua (by rw[hfind,aa,hneg])];have hor:(cc x.2.2.1 []||s.2.1.any (fun y=>decide (y.1=x.2.2.1)))=decide (x.2.2.1=[]∨∃y∈s.2.1,y.1=x.2.2.1):=by
   rw[gj,Bool.decide_or]
   congr 1
   rw[RU,Y8,Ml];simp
  rw[hor];by_cases z1:x.2.2.1=[]∨∃y∈s.2.1,y.1=x.2.2.1
  ·by_cases z2:∃y∈s.2.2.1,y.1=x.2.2.2.1
   ·rw[fo z1,dJ (fun w=>w z2),br (aiY (show xZ s x from⟨z1,z2⟩))];rfl
   ·rw[fo z1,fo z2,bu (aiZ (show ¬xZ s x from fun w=>z2 w.2))];rfl
  ·rw[dJ z1,bu (aiZ (show ¬xZ s x from fun w=>z1 w.1))];rfl) (by
  unfold sQ;dsimp only;rw[aE,af];rfl) with ⟨i,x,hx,hp,_,hr⟩|⟨hn,hr⟩
 ·rw[hr,aa];exact⟨false,rfl,fun q=>(by cases q),fun q=>absurd (q.refs x (gm hx)) (ic hp)⟩
 have t2:∀x∈s.1,xZ s x:=fun x hx=>by
  obtain⟨i,hi⟩:=bJ.1 hx;have:=hn i x hi;simpa using this
 rw[hr,aa];dsimp only;rw[cv,ag];obtain⟨bad,yw⟩:∃bad:Nat→zP→Prop,∀i x,bad i x↔¬(Tm s x∧∀(k:Nat) (y:zP),k+1=i→s.2.2.2.2.1[k]?=some y→jy y.1 x.1=true):=⟨_,fun _ _=>Iff.rfl⟩;rcases p8 (f:=sR (s,())) s.2.2.2.2.1 (fun i=>((false,(i,())),())) (fun i x=>decide (bad i x)) (fun i x=>(1,((false,((i:Int),())),()))) (0,((false,(len s.2.2.2.2.1,())),())) (by have:=h.ml;omega) (fun i x hx hi ha=>by
  unfold sR;dsimp only;rw[au hi,ag,aB hx,aa,hfind,aa,hneg,ha];by_cases z1:∃y∈s.2.2.1,y.1=x.1
  rotate_left
  ·rw[fo z1,ag,bu (fo ((yw i x).2 fun w=>z1 w.1.1))]
  rw[dJ (fun w=>w z1),af];by_cases z2:1≤x.2.1
  rotate_left
  ·rw[aT (by omega),ag,bu (fo ((yw i x).2 fun w=>z2 w.1.2.1))]
  rw[aH (by omega),af];by_cases z3:x.2.1≤1000
  rotate_left
  ·rw[aT (by omega),ag,bu (fo ((yw i x).2 fun w=>z3 w.1.2.2))]
  rw[aH (by omega),af];cases i with
  | zero =>
    rw[show bB (0:Int) ((0:Nat):Int)=false from rfl,af,br (by rw[Ml,yw];exact fun w=>w ⟨⟨z1,z2,z3⟩,fun k y hk=>by omega⟩)]
  | succ k =>
    obtain⟨y,hy⟩:∃y,s.2.2.2.2.1[k]?=some y:=⟨_,kL (show k<s.2.2.2.2.1.length by omega)⟩;rw[aT (by omega),ag,eT (by omega) (by omega),show((k+1:Nat):Int)-1=(k:Int) by omega,aB hy,aa];by_cases z4:jy y.1 x.1=true
    ·rw[z4,aJ,af,br (by
     rw[Ml,yw];refine fun w=>w ⟨⟨z1,z2,z3⟩,fun k' y' hk hy'=>?_⟩;obtain rfl:k'=k:=by omega
     rw[hy] at hy';obtain rfl:=aN hy';exact z4)]
    ·rw[show jy y.1 x.1=false by simpa using z4,aF,ag,bu (fo ((yw _ x).2 fun w=>z4 (w.2 k y rfl hy)))]) (by
  unfold sR;dsimp only;rw[aE,af];rfl) with ⟨i,x,hx,hp,_,hr⟩|⟨hn,hr⟩
 ·rw[hr,aa];refine⟨false,rfl,fun q=>(by cases q),fun q=>absurd ⟨q.mts x (gm hx),fun k y hk hy=>?_⟩ ((yw i x).1 (ic hp))⟩;subst hk;exact N2.1 q.RC k y.1 x.1 (by rw[KY,hy];rfl) (by rw[KY,hx];rfl)
 rw[hr,aa];have ahP:∀(i:Nat) (x:zP),s.2.2.2.2.1[i]?=some x→Tm s x∧∀(k:Nat) (y:zP),k+1=i→s.2.2.2.2.1[k]?=some y→jy y.1 x.1=true:=fun i x hx=>by
  have:=hn i x hx;simp only[OZ,yw,Classical.not_not] at this;exact this
 refine⟨true,rfl,fun _=>⟨f1.1 g1,f2.1 g2,f3.1 g3,f4.1 g4,by omega,t1,t2,fun x hx=>?_,N2.2 fun i a b ha hb=>?_⟩,fun _=>rfl⟩
 ·obtain⟨i,hi⟩:=bJ.1 hx;exact(ahP i x hi).1
 ·rw[KY] at ha hb;obtain⟨a',ha',rfl⟩:=Option.map_eq_some_iff.1 ha;obtain⟨b',hb',rfl⟩:=Option.map_eq_some_iff.1 hb;exact(ahP (i+1) b' hb').2 i a' rfl ha'
end Go.Ge
namespace Go.Ge
variable [Lp]
theorem Oo{α:Type}{p:α→Bool}:∀{l:List α} {x:α},x∈l.takeWhile p→p x=true:=by
 intro l;induction l with
 | nil=>intro x h;cases h
 | cons a r ih =>
   intro x h;rw[WI] at h;split at h
   ·rename_i hp;rcases List.mem_cons.1 h with rfl|h
    ·exact hp
    ·exact ih h
   ·cases h
section
variable {α:Type} (key:α→Tx)
def ud(l:List α)(x:α):List α:=l.takeWhile (fun y=>jy (key y) (key x))++[x]++l.dropWhile (fun y=>jy (key y) (key x))
def fQ(l:List α)(p:Tx):Nat:=(l.takeWhile fun y=>jy (key y) p).length
def uT(l:List α):Prop:=(l.map key).Pairwise fun x y=>jy x y=true
theorem Ex(l:List α)(p:Tx):fQ key l p≤l.length:=by
 unfold fQ;have:=congrArg List.length (KT (p:=fun y:α=>jy (key y) p) (l:=l));rw[iO] at this;omega
theorem Oq(l:List α)(x:α):l.take (fQ key l (key x))=l.takeWhile (fun y=>jy (key y) (key x))∧l.drop (fQ key l (key x))=l.dropWhile (fun y=>jy (key y) (key x)):=by
 have e:=KT (p:=fun y:α=>jy (key y) (key x)) (l:=l);refine⟨?_,?_⟩
 ·unfold fQ
  conv=>lhs;rw[←e]
  rw[Za];rw[e]
 ·unfold fQ
  conv=>lhs;rw[←e]
  rw[Y9];rw[e]
theorem Ot(l:List α)(x:α)(hl:l.length≤1000000):Hz l ((fQ key l (key x):Nat):Int) [x]=some (ud key l x):=by
 have hk:=Ex key l (key x);unfold Hz ud;rw[show inside 0 ((fQ key l (key x):Nat):Int) (len l)=true from bq (by decide) (by omega) (by unfold len;omega),cG (by simp only[ep,ig];omega)];rw[u6,(Oq key l x).1,(Oq key l x).2];rfl
theorem Ou{S R:Type}{f:S→Option (S⊕R)}(l:List α)(p:Tx)(hl:l.length≤1000000)(mk:Int→S)(hit:Nat→R)(fin:R)
  (hs:∀(i:Nat) (y:α),l[i]?=some y→f (mk (i:Int))=some (if jy (key y) p=true then .inl (mk ((i+1:Nat):Int)) else .inr (hit i))) (he:f (mk (l.length:Int))=some (.inr fin)) :
  Loop f (mk 0)=some (if fQ key l p<l.length then hit (fQ key l p) else fin):=by
 have hpl:∀k:Nat,k≤l.length→(∀(j:Nat) (y:α),j<k→l[j]?=some y→jy (key y) p=true)→(∀y,l[k]?=some y→jy (key y) p=false)→fQ key l p=k:=by
  intro k hk h1 h2;have e:l.takeWhile (fun y=>jy (key y) p)=l.take k:=by
   clear hs he
   revert k
   induction l with
   | nil=>intro k hk _ _;simp
   | cons a r ih =>
     intro k hk h1 h2;cases k with
     | zero=>rw[WI,h2 a rfl];rfl
     | succ k =>
       rw[WI,h1 0 a (by omega) rfl,bu rfl,Y4,ih (by simp at hl;omega) k (by simp at hk;omega) (fun j y hj hy=>h1 (j+1) y (by omega) hy) (fun y hy=>h2 y hy)]
  unfold fQ;rw[e,cW];omega
 rcases p8 (f:=f) l mk (fun _ y=>!jy (key y) p) (fun i _=>hit i) fin (by omega) (fun i y hy hi ha=>by
  rw[hs i y hy];cases jy (key y) p<;>rfl) he with ⟨i,x,hx,hp,hj,h⟩|⟨hn,h⟩
 ·have hi:=aI hx;have:=hpl i (by omega) (fun j y hji hy=>by simpa using hj j y hji hy) (fun y hy=>by
   rw[hx] at hy;obtain rfl:=aN hy;simpa using hp)
  rw[h,this,bu hi]
 ·have:=hpl l.length (cU _) (fun j y _ hy=>by simpa using hn j y hy) (fun y hy=>by rw[TN (cU _)] at hy;cases hy);rw[h,this,br (by omega)]
theorem Ey(l:List α)(x:α):(ud key l x).Perm (x::l):=by
 unfold ud;have e:=KT (p:=fun y:α=>jy (key y) (key x)) (l:=l);have h:(l.takeWhile (fun y=>jy (key y) (key x))++[x]++l.dropWhile (fun y=>jy (key y) (key x))).Perm (x::(l.takeWhile (fun y=>jy (key y) (key x))++l.dropWhile (fun y=>jy (key y) (key x)))):=by
  rw[pZ];exact List.perm_middle
 rw[e] at h;exact h
theorem sU{l:List α}{x y:α}:y∈ud key l x↔y=x∨y∈l:=by rw[(Ey key l x).mem_iff,IQ]
theorem HZ(l:List α)(x:α):(ud key l x).length=l.length+1:=by rw[(Ey key l x).length_eq,ep]
theorem uT.inj{l:List α}(h:uT key l){x y:α}(hx:x∈l)(hy:y∈l)(e:key x=key y):x=y:=by
 unfold uT at h;rw[T3] at h;obtain⟨i,hi⟩:=bJ.1 hx;obtain⟨j,hj⟩:=bJ.1 hy;have h1:=aI hi;have h2:=aI hj;rw[kL h1] at hi;rw[kL h2] at hj;obtain rfl:=aN hi;obtain rfl:=aN hj;rcases TZ i j with q|q|q
 ·have:=List.pairwise_iff_getElem.1 h i j h1 h2 q;rw[e,oq] at this;cases this
 ·subst q;rfl
 ·have:=List.pairwise_iff_getElem.1 h j i h2 h1 q;rw[e,oq] at this;cases this
theorem Z0{l:List α}(h:uT key l){x:α}(hx:∀y∈l,key y≠key x):uT key (ud key l x):=by
 unfold uT at h⊢;rw[T3] at h⊢;unfold ud;have e:=KT (p:=fun y:α=>jy (key y) (key x)) (l:=l);have hA:∀y∈l.takeWhile (fun y=>jy (key y) (key x)),jy (key y) (key x)=true:=fun y hy=>Oo (p:=fun y=>jy (key y) (key x)) hy;have hB:∀y∈l.dropWhile (fun y=>jy (key y) (key x)),jy (key x) (key y)=true:=by
  clear e hA;induction l with
  | nil=>intro y hy;cases hy
  | cons a r ih =>
    intro y hy;rw[Mk] at hy;rw[TY] at h;split at hy
    ·exact ih h.2 (fun z hz=>hx z (qU _ hz)) y hy
    ·rename_i hq;have ha:jy (key x) (key a)=true:=by
      rcases Ma (key a) (key x) with q|q|q
      ·exact absurd q hq
      ·exact absurd q (hx a (nX ..))
      ·exact q
     rcases List.mem_cons.1 hy with rfl|hy
     ·exact ha
     ·exact Em ha (h.1 y hy)
 rw[←e] at h;rw[acG] at h;obtain⟨p1,p2,p3⟩:=h;rw[pZ,acG];refine⟨p1,?_,fun a ha b hb=>?_⟩
 ·rw[TU,TY];exact⟨hB,p2⟩
 ·rw[TU] at hb;rcases List.mem_cons.1 hb with rfl|hb
  ·exact hA a ha
  ·exact p3 a ha b hb
def OY(l:List α)(p:Tx):List α:=l.filter fun x=>decide (key x≠p)
theorem ag2{l:List α}{p:Tx}{x:α}:x∈OY key l p↔x∈l∧key x≠p:=by unfold OY;rw[Zb,Ml]
theorem Ez(l:List α)(p:Tx):(OY key l p).Sublist l:=List.filter_sublist
theorem afa{l:List α}(h:uT key l)(p:Tx):uT key (OY key l p):=List.Pairwise.sublist ((Ez key l p).map key) h
theorem Z1{l:List α}(h:uT key l){i:Nat}{x:α}(hx:l[i]?=some x):l.take i++l.drop (i+1)=OY key l (key x):=by
 unfold uT at h;rw[T3] at h;have hlt:=aI hx;have hd:l.drop i=x::l.drop (i+1):=by
  rw[CD hlt];rw[kL hlt] at hx;rw[aN hx]
 have hs:l=l.take i++(x::l.drop (i+1)):=by rw[←hd,CE]
 rw[hs,acG,TY] at h;obtain⟨_,⟨h2,_⟩,h3⟩:=h;unfold OY
 conv=>rhs;rw[hs]
 rw[Y5,acX,br (by simp)]
 congr 1
 ·symm;rw[acK];intro y hy;exact fo (Ga (h3 y hy x (nX ..)))
 ·symm;rw[acK];intro y hy;exact fo fun q=>Ga (h2 y hy) q.symm
end
end Go.Ge
namespace Go.Ge
variable [Lp]
abbrev afb:=Int×Tx×Int×Tx×Unit
def H6(e:Int):afb:=(e,([],(0,([],()))))
def RD(id:Tx):afb:=(0,(id,(0,([],()))))
def Tn(s:aV):List Nm:=s.2.1.flatMap ofI
def yz(s:aV):List Nm:=s.2.2.1.flatMap ofL
def yb(s:aV):List Nm:=s.1.flatMap ofB
structure Ov (s:aV):Prop where
 ll:s.2.2.1.length≤40
 il:s.2.1.length≤40
 bl:s.1.length≤40
 ln:∀x∈s.2.2.1,vO x.2.2.1
 tI:∀x∈s.2.1,vO x.2.1
 bn:∀x∈s.1,vO x.2.1
 it:∀x∈s.2.1,LC x.2.2.2.2.1
theorem ER.hd{s:aV}(h:ER s):Ov s:=⟨h.ll,h.il,h.bl,fun x hx=>(h.xl x hx).2.2.1,fun x hx=>(h.xi x hx).2.1,fun x hx=>(h.xb x hx).2.1,fun x hx=>(h.xi x hx).2.2.2⟩
theorem Ov.ag3{s:aV}(h:Ov s):FewB (0,(s.2.2.1,([],([],())))):=⟨h.ll,h.ln,by simp,fun x hx=>(by cases hx),by simp,fun x hx=>(by cases hx)⟩
theorem Ov.ai0{s:aV}(h:Ov s):FewB (0,([],(s.2.1,([],())))):=⟨by simp,fun x hx=>(by cases hx),h.il,h.tI,by simp,fun x hx=>(by cases hx)⟩
theorem Ov.ag4{s:aV}(h:Ov s):FewB (0,([],([],(s.1,())))):=⟨by simp,fun x hx=>(by cases hx),by simp,fun x hx=>(by cases hx),h.bl,h.bn⟩
theorem RE{s:aV}(h:Ov s):Small (yz s):=Jr 3 _ h.ag3
theorem abT{s:aV}(h:Ov s):Small (Tn s):=Jr 2 _ h.ai0
theorem ag5{s:aV}(h:Ov s):(yz s).length≤40:=gY (oF S0 _) h.ll
theorem ag6{s:aV}(h:Ov s):(Tn s).length≤40:=gY (oF S1 _) h.il
theorem AW(s:aV)(h:Ov s):lC (s,())=some (yz s,()):=by
 unfold lC;dsimp only;rw[Bx 3 _ h.ag3,aa];rfl
theorem JO(s:aV)(h:Ov s):sG (s,())=some (Tn s,()):=by
 unfold sG;dsimp only;rw[Bx 2 _ h.ai0,aa];rfl
theorem LF(s:aV)(ref:Tx)(h:Ov s):ng (s,(ref,()))=some (dI (yz s) ref):=by
 unfold ng;dsimp only;rw[AW s h,aa,vP _ _ (RE h) (by have:=ag5 h;omega),aa]
theorem LG(s:aV)(ref:Tx)(h:Ov s):nh (s,(ref,()))=some (dI (Tn s) ref):=by
 unfold nh;dsimp only;rw[JO s h,aa,vP _ _ (abT h) (by have:=ag6 h;omega),aa]
theorem EA(l:List Tx)(h:l.length≤4294967296):bz (l,())=some (l,()):=Bw l h
theorem DI(l:List Item)(h:l.length≤4294967296):b7 (l,())=some (l,()):=by
 unfold b7;rw[mG h];rfl
theorem Ow(s:aV)(id:Tx)(h:Ov s):∃r,wI (s,(id,()))=some r∧(∀x∈s.2.1,uT (·.1) s.2.1→x.1=id→r=(x,(true,()))):=by
 unfold wI;rcases p8 (f:=qJ (s,(id,()))) s.2.1 (fun i=>((false,(i,())),((([]:Tx),(([]:List Tx),(([]:Tx),(([]:Tx),(([]:List Item),()))))),()))) (fun _ y=>decide (y.1=id)) (fun i y=>(1,((true,((i:Int),())),(y,())))) (0,((false,(len s.2.1,())),((([]:Tx),(([]:List Tx),(([]:Tx),(([]:Tx),(([]:List Item),()))))),()))) (by have:=h.il;omega) (fun i y hy hi ha=>by
  have hm:=gm hy;unfold qJ;dsimp only;rw[au hi,ag,aB hy,aa,gj,ha];by_cases q:y.1=id
  ·rw[fo q,ag,EA _ (h.tI y hm).small,aa,DI _ (by have:=(h.it y hm).1;omega),aa];rfl
  ·rw[dJ q,af];rfl) (by unfold qJ;dsimp only;rw[aE,af];rfl) with ⟨i,y,hy,hp,_,hr⟩|⟨hn,hr⟩
 ·rw[hr,aa];refine⟨(y,(true,())),rfl,fun x hx hu he=>?_⟩;rw[hu.inj (fun z:fN=>z.1) hx (gm hy) (he.trans (ic hp).symm)]
 ·rw[hr,aa];refine⟨_,rfl,fun x hx hu he=>?_⟩;obtain⟨i,hi⟩:=bJ.1 hx;have:=hn i x hi;simp[he] at this
end Go.Ge
namespace Go.Ge
variable [Lp]
theorem BK(l:List Tx)(h:l.length≤4294967296):eM (l,(l,()))=some (true,()):=by rw[Lv l l h,fo rfl]
theorem Ox(l:List Item)(h:LC l):gT (l,(l,()))=some (true,()):=NY l (by have:=h.1;omega)
theorem rj(a:Tx):cc a a=true:=fo rfl
theorem EB{α:Type}{f:(Bool×Int×Unit)×Unit→Option (((Bool×Int×Unit)×Unit)⊕(Nat×(Bool×Int×Unit)×Unit))}(l:List α)(hl:l.length≤1000000)
  (hs:∀(i:Nat) (x:α),l[i]?=some x→x∈l→i<l.length→f ((false,((i:Int),())),())=some (.inl ((false,(aL .i64 (i:Int) 1,())),()))) (he:f ((false,((l.length:Int),())),())=some (.inr (0,((false,((l.length:Int),())),())))) :
  Loop f ((false,((0:Int),())),())=some (0,((false,((l.length:Int),())),())) :=
 de l.length (fun j:Nat=>((false,((j:Int),())),())) (fun j hj=>by
  have hx:l[j]?=some l[j]:=kL hj;rw[hs j l[j] hx (acV hj) hj,aY (by omega)]) he
theorem YL(l:List fC)(hl:l.length≤1000000)(h:∀x∈l,BdB x):nN (l,(l,()))=some (true,()):=by
 unfold nN;dsimp only;rw[qi,aJ,af,EB (f:=j8 (l,(l,()))) l hl (fun i x hx hm hi=>by
  unfold j8;dsimp only;rw[au hi,ag,aB hx,aa,aa];simp only[rj,ag,af,aJ,aF,aa,BK _ (h x hm).2.1.small,Ox _ (h x hm).2.2.2.2]) (by unfold j8;dsimp only;rw[aE,af];rfl),aa]
 rfl
theorem Wa(l:List fN)(hl:l.length≤1000000)(h:∀x∈l,BdI x):mh (l,(l,()))=some (true,()):=by
 unfold mh;dsimp only;rw[qi,aJ,af,EB (f:=jv (l,(l,()))) l hl (fun i x hx hm hi=>by
  unfold jv;dsimp only;rw[au hi,ag,aB hx,aa,aa];simp only[rj,ag,af,aJ,aF,aa,BK _ (h x hm).2.1.small,Ox _ (h x hm).2.2.2]) (by unfold jv;dsimp only;rw[aE,af];rfl),aa]
 rfl
theorem Wb(l:List aG)(hl:l.length≤1000000)(h:∀x∈l,vO x.2.2.1):mj (l,(l,()))=some (true,()):=by
 unfold mj;dsimp only;rw[qi,aJ,af,EB (f:=jw (l,(l,()))) l hl (fun i x hx hm hi=>by
  unfold jw;dsimp only;rw[au hi,ag,aB hx,aa,aa];have eb:eqB x.2.2.2.2.2.2.1 x.2.2.2.2.2.2.1=true:=by unfold eqB;simp
  simp only[rj,qi,eb,ag,af,aJ,aF,aa,BK _ (h x hm).small]) (by unfold jw;dsimp only;rw[aE,af];rfl),aa]
 rfl
theorem Wc(l:List zP)(hl:l.length≤1000000):mq (l,(l,()))=some (true,()):=by
 unfold mq;dsimp only;rw[qi,aJ,af,EB (f:=jx (l,(l,()))) l hl (fun i x hx hm hi=>by
  unfold jx;dsimp only;rw[au hi,ag,aB hx,aa,aa];simp only[rj,qi,ag,af,aJ,aF];rfl) (by unfold jx;dsimp only;rw[aE,af];rfl),aa]
 rfl
theorem Kw(s:aV)(h:ER s)(hd:s.2.2.2.1.length≤1000000):fP (s,(s,()))=some (true,()):=by
 unfold fP;dsimp only;rw[YL _ (by have:=h.bl;omega) h.xb,aa];dsimp only;rw[ag,Wa _ (by have:=h.il;omega) h.xi,aa,aa,ag,Wb _ (by have:=h.ll;omega) (fun x hx=>(h.xl x hx).2.2.1),aa,aa,ag,BK _ (by omega),aa,aa,ag,Wc _ h.ml,aa];rfl
theorem Qb{ref:Tx}{f:List Tx}(h:(w8 ref f).2.1=0):(w8 ref f).1∈f:=by
 unfold w8 at h⊢;split at h
 ·cases h
 ·rename_i hq;rw[br hq]
  match f,h with
  | [a],_=>simp
theorem AX{l:List Nm}{ref:Tx}(h:(dI l ref).2.1=0):∃x∈l,x.1=(dI l ref).1:=by
 unfold dI at h⊢;by_cases h1:∃x∈l,x.1=ref
 ·rw[bu h1];exact h1
 ·rw[br h1] at h⊢;cases hf:l.find? (fun x=>decide (ref∈x.2.1)) with
  | some x=>exact⟨x,WE hf,rfl⟩
  | none =>
    rw[hf] at h;have:=Qb h;unfold Td at this⊢;rw[Mn] at this;obtain⟨x,hx,hm⟩:=this;refine⟨x,hx,?_⟩;unfold Tc at hm;split at hm
    ·rw[Cw] at hm;exact hm.symm
    ·cases hm
theorem YM{l:List Nm}{ref:Tx}{x:Nm}(hx:x∈l)(hn:ref∈x.2.1)(hid:∀y∈l,y.1≠ref)(hone:∀y∈l,ref∈y.2.1→y=x):dI l ref=(x.1,(0,())):=by
 unfold dI;rw[br (by rintro⟨y,hy,he⟩;exact hid y hy he)];cases hf:l.find? (fun x=>decide (ref∈x.2.1)) with
 | some y =>
   have h1:=WE hf;have h2:=Mq hf;rw[hone y h1 (ic h2)]
 | none =>
   rw[acM] at hf;exact absurd hn (by simpa using hf x hx)
theorem Z2{l:List Nm}{given:List Tx}(h:rL l [] given=0)(hid:∀x∈l,x.1≠[]):nJ given=true∧∀x∈l,∀s∈x.2.1,s∉given:=by
 unfold rL at h;by_cases c:lY given=0
 rotate_left
 ·rw[bu c] at h;exact absurd h c
 rw[br (fun q=>q c)] at h;refine⟨?_,fun x hx s hs hg=>?_⟩
 ·unfold lY at c;by_cases q:nJ given=true
  ·exact q
  ·rw[br q] at c;cases c
 ·have hc:NP l given (HH l [])=true:=by
   rw[Jp];obtain⟨i,hi⟩:=bJ.1 hx;refine⟨i,x,hi,?_⟩;unfold aa4;have hf:HH l []=-1:=NM fun j y hy=>dJ (hid y (gm hy));rw[hf,dW,Ml,Y8];exact⟨by omega,s,hs,fo hg⟩
  rw[bu hc] at h;cases h
end Go.Ge
namespace Go.Ge
variable [Lp]
theorem ag7{α:Type}(key:α→Tx)(l:List α)(p:Tx)(hu:uT key l)(i:Nat)(x:α)(hx:l[i]?=some x)(he:key x=p)(hl:l.length≤1000000):PF l (i:Int) (aL .i64 (i:Int) 1)=some (OY key l p):=by
 have hlt:=aI hx;unfold PF;rw[aY (by omega),bq (by omega) (by omega) (by unfold len;omega),gp,u6,u6,Z1 key hu hx,he]
theorem Kx{α β:Type}{l m:List α}(h:l.Sublist m)(g:α→List β):(l.flatMap g).Sublist (m.flatMap g):=by
 induction h with
 | slnil=>exact List.Sublist.refl _
 | cons a _ ih=>rw[O3];exact ih.trans (List.sublist_append_right _ _)
 | cons_cons a _ ih=>rw[O3,O3];exact(List.Sublist.refl _).append ih
theorem ya.upI{s:aV}(h:ya s):uT (·.1) s.2.1:=by
 have:=h.i.ids;unfold N0 at this;simpa [uT] using this
theorem ya.upL{s:aV}(h:ya s):uT (·.1) s.2.2.1:=by
 have:=h.l.ids;unfold N0 at this;simpa [uT] using this
theorem ya.upB{s:aV}(h:ya s):uT (·.1) s.1:=by
 have:=h.b.ids;unfold N0 at this;simpa [uT] using this
theorem ya.ai0{s:aV}(h:ya s):s.2.1.length≤32:=h.i.Ep
theorem Z3{s:aV}{y:Nm}(h:y∈Tn s):∃x∈s.2.1,y=(x.1,(x.2.1,())):=by
 unfold Tn at h;rw[Mn] at h;obtain⟨x,hx,hm⟩:=h;unfold ofI at hm;rw[Cw] at hm;exact⟨x,hx,hm⟩
theorem Z4{s:aV}{y:Nm}(h:y∈yz s):∃x∈s.2.2.1,y=(x.1,(x.2.2.1,())):=by
 unfold yz at h;rw[Mn] at h;obtain⟨x,hx,hm⟩:=h;unfold ofL at hm;split at hm
 ·rw[Cw] at hm;exact⟨x,hx,hm⟩
 ·cases hm
theorem rq:¬BC []:=fun h=>by have:=h.2;cases this
theorem nC.ai1{l:List fN}(h1:l.length≤32)(h2:∀x∈l,abr x)(h3:uT (·.1) l)(h4:(l.flatMap (·.2.1)).Nodup):nC 2 (0,([],(l,([],())))) :=
 ⟨h1,by show 0+l.length+0=l.length;omega,fun x hx=>(by cases hx),h2,fun x hx=>(by cases hx),by unfold N0;simpa [uT] using h3,by unfold P3;simpa using h4⟩
theorem ya.ai1{s:aV}(h:ya s){l:List fN}(h1:nC 2 (0,([],(l,([],())))))(h2:∀x∈l,On s x)(h3:∀x∈s.1,x.2.2.1=[]∨∃y∈l,y.1=x.2.2.1):ya (s.1,(l,s.2.2)) :=
 ⟨h.b,h1,h.l,h.lays,h.YK,h2,fun x hx=>⟨h3 x hx,(h.refs x hx).2⟩,h.mts,h.RC⟩
theorem ER.ai1{s:aV}(h:ER s){l:List fN}(h1:l.length≤40)(h2:∀x∈l,BdI x):ER (s.1,(l,s.2.2)):=⟨h.ll,h1,h.bl,h.xl,h2,h.xb,h.dl,h.ml⟩
end Go.Ge
namespace Go.Ge
variable [Lp]
end Go.Ge
namespace Go.Ge
variable [Lp]
def zT:Tx:=[102,114,101,115,104,45,110,97,109,101]
structure BkS (s:aV):Prop where
 il:∀x∈s.2.1,x.1.length≤1048576∧x.2.2.1.length≤1048576
 bl:∀x∈s.1,x.1.length≤1048576∧x.2.2.1.length≤1048576∧x.2.2.2.1.length≤1048576
 dg:∀x∈s.2.2.1,x.2.2.2.1.length≤1048576
theorem aiO.bd{s:aV}(h:aiO s)(k:BkS s):ER s where
 ll:=h.base.ll
 il:=h.base.il
 bl:=h.base.bl
 xl:=fun x hx=>⟨by have:=h.ids x hx;omega,by have:=h.ids x hx;omega,h.base.ln x hx,k.dg x hx⟩
 xi:=fun x hx=>⟨(k.il x hx).1,h.base.tI x hx,(k.il x hx).2,(h.base.im x hx).2⟩
 xb:=fun x hx=>⟨(k.bl x hx).1,h.base.bn x hx,(k.bl x hx).2.1,(k.bl x hx).2.2,(h.base.bm x hx).2⟩
 dl:=h.amE
 ml:=by have:=h.mts;omega
end Go.Ge
namespace Go.Ge
abbrev To:Ty:=.pair .str (.pair .str (.pair .str .unit))
abbrev RF:Ty:=.pair .str (.pair (.slice .str) (.pair .str (.pair .str (.pair .str (.pair (.slice To) .unit)))))
abbrev EC:Ty:=.pair .str (.pair (.slice .str) (.pair .str (.pair .str (.pair (.slice To) .unit))))
abbrev ED:Ty:=.pair .str (.pair .str (.pair (.slice .str) (.pair .str (.pair (.int .i64) (.pair (.int .i64) (.pair .bool .unit))))))
abbrev Z5:Ty:=.pair .str (.pair (.int .i64) .unit)
abbrev ag9:Ty:=.pair (.slice RF) (.pair (.slice EC) (.pair (.slice ED) (.pair (.slice .str) (.pair (.slice Z5) .unit))))
theorem Oy{α:Type}{f:α→Nat}{l:List α}{x:α}(h:x∈l):f x≤vN f l:=by
 induction l with
 | nil=>cases h
 | cons a r ih =>
   unfold vN;rcases List.mem_cons.1 h with rfl|h
   ·omega
   ·have:=ih h;omega
theorem ai2{s:aV}(h:ag9.bulk s≤1048576):BkS s:=by
 obtain⟨bo,im,la,di,mo,u⟩:=s;have h':(vN RF.bulk bo+1)+((vN EC.bulk im+1)+((vN ED.bulk la+1)+((vN Ty.str.bulk di+1)+((vN Z5.bulk mo+1)+0))))≤1048576:=h;refine⟨fun x hx=>?_,fun x hx=>?_,fun x hx=>?_⟩
 ·have h1:EC.bulk x≤vN EC.bulk im:=Oy (f:=EC.bulk) hx;have h2:EC.bulk x=(x.1.length+1)+((vN Ty.str.bulk x.2.1+1)+((x.2.2.1.length+1)+((x.2.2.2.1.length+1)+((vN To.bulk x.2.2.2.2.1+1)+0)))):=rfl;omega
 ·have h1:RF.bulk x≤vN RF.bulk bo:=Oy (f:=RF.bulk) hx;have h2:RF.bulk x=(x.1.length+1)+((vN Ty.str.bulk x.2.1+1)+((x.2.2.1.length+1)+((x.2.2.2.1.length+1)+((x.2.2.2.2.1.length+1)+((vN To.bulk x.2.2.2.2.2.1+1)+0))))):=rfl;omega
 ·have h1:ED.bulk x≤vN ED.bulk la:=Oy (f:=ED.bulk) hx;have h2:ED.bulk x=(x.1.length+1)+((x.2.1.length+1)+((vN Ty.str.bulk x.2.2.1+1)+((x.2.2.2.1.length+1)+(1+(1+(1+0)))))):=rfl;omega
end Go.Ge
namespace Go.Ge
variable [Lp]
theorem uT.idx{α:Type}{key:α→Tx}{l:List α}(h:uT key l){i j:Nat}{x y:α}(hx:l[i]?=some x)(hy:l[j]?=some y)(e:key x=key y):i=j:=by
 unfold uT at h;rw[T3] at h;obtain⟨hi,rfl⟩:=List.getElem?_eq_some_iff.1 hx;obtain⟨hj,rfl⟩:=List.getElem?_eq_some_iff.1 hy;have hp:=List.pairwise_iff_getElem.1 h;rcases TZ i j with q|q|q
 ·have:=hp i j hi hj q;rw[e,oq] at this;cases this
 ·exact q
 ·have:=hp j i hj hi q;rw[e,oq] at this;cases this
theorem wP{ls:List aG}(hu:uT (·.1) ls){i:Nat}{x:aG}(hx:ls[i]?=some x):OX ls x.1=some i:=by
 obtain⟨j,hj⟩:=Tk.2 ⟨x,gm hx,rfl⟩;obtain⟨y,hy,he⟩:=YF hj;rw[hj,hu.idx hy hx he]
theorem afc{ls:List aG}{id:Tx}(h:∀x∈ls,x.1≠id):OX ls id=none:=Oj fun i x hx=>dJ (h x (gm hx))
theorem BL{ls:List aG}{id:Tx}(h:∀x∈ls,x.1≠id)(n:Nat)(acc:List aG):Gt ls n id acc=([],3):=by
 unfold Gt;rw[afc h]
theorem H7{ls:List aG}(hu:uT (·.1) ls){x:aG}(hx:x∈ls)(acc:List aG):Gt ls 0 x.1 acc=([],5):=by
 obtain⟨i,hi⟩:=bJ.1 hx;unfold Gt;rw[wP hu hi]
theorem sV{ls:List aG}(hu:uT (·.1) ls){x:aG}(hx:x∈ls)(n:Nat)(acc:List aG):Gt ls (n+1) x.1 acc=if x.2.1=[] then(acc++[x],0) else Gt ls n x.2.1 (acc++[x]):=by
 obtain⟨i,hi⟩:=bJ.1 hx
 conv=>lhs;unfold Gt
 rw[wP hu hi];dsimp only;rw[hi]
theorem aha{ls ls':List aG}(hu:uT (·.1) ls)(Kb:uT (·.1) ls'){q:Tx}(h:∀x:aG,x.1≠q→(x∈ls'↔x∈ls))(hp:∀x∈ls,x.2.1≠q) :
  ∀(n:Nat) (id:Tx) (acc:List aG),id≠q→Gt ls' n id acc=Gt ls n id acc:=by
 intro n;induction n with
 | zero =>
   intro id acc hid;by_cases hx:∃x∈ls,x.1=id
   ·obtain⟨x,hx,rfl⟩:=hx;rw[H7 hu hx,H7 Kb ((h x hid).2 hx)]
   ·rw[BL (fun x hx' e=>hx ⟨x,hx',e⟩),BL (fun x hx' e=>hx ⟨x,(h x (by rw[e];exact hid)).1 hx',e⟩)]
 | succ n ih =>
   intro id acc hid;by_cases hx:∃x∈ls,x.1=id
   ·obtain⟨x,hx,rfl⟩:=hx;rw[sV hu hx,sV Kb ((h x hid).2 hx),ih _ _ (hp x hx)]
   ·rw[BL (fun x hx' e=>hx ⟨x,hx',e⟩),BL (fun x hx' e=>hx ⟨x,(h x (by rw[e];exact hid)).1 hx',e⟩)]
theorem abU{ls:List aG}(hu:uT (·.1) ls):∀(n:Nat) (id:Tx) (acc:List aG),(Gt ls n id acc).2=0 →
  ∃c,(Gt ls n id acc).1=acc++c∧∀(m:Nat) (acc':List aG),c.length≤m→Gt ls m id acc'=(acc'++c,0):=by
 intro n;induction n with
 | zero =>
   intro id acc h;by_cases hx:∃x∈ls,x.1=id
   ·obtain⟨x,hx,rfl⟩:=hx;rw[H7 hu hx] at h;cases h
   ·rw[BL (fun x hx' e=>hx ⟨x,hx',e⟩)] at h;cases h
 | succ n ih =>
   intro id acc h;by_cases hx:∃x∈ls,x.1=id
   ·obtain⟨x,hx,rfl⟩:=hx;rw[sV hu hx] at h⊢;by_cases hp:x.2.1=[]
    ·rw[bu hp] at h⊢;refine⟨[x],rfl,fun m acc' hm=>?_⟩;cases m with
     | zero=>cases hm
     | succ m=>rw[sV hu hx,bu hp]
    ·rw[br hp] at h⊢;obtain⟨c,c1,c2⟩:=ih _ _ h;refine⟨x::c,by rw[c1];simp,fun m acc' hm=>?_⟩;cases m with
     | zero=>cases hm
     | succ m =>
       rw[sV hu hx,br hp,c2 m _ (by simpa using hm)];simp
   ·rw[BL (fun x hx' e=>hx ⟨x,hx',e⟩)] at h;cases h
theorem RG{ls:List aG}(hu:uT (·.1) ls){x:aG}(hx:x∈ls)(h:(bV ls x.1).2=0):x.2.1=[]∨∃y∈ls,y.1=x.2.1:=by
 unfold bV at h;rw[sV hu hx] at h;by_cases hp:x.2.1=[]
 ·exact .inl hp
 ·rw[br hp] at h;right;apply KU;intro q;rw[BL (fun y hy e=>q ⟨y,hy,e⟩)] at h;cases h
def YN(ls:List aG)(ds:List Tx)(x:aG)(d:Tx):Prop:=∃i:Nat,ls[i]?=some x∧ds[i]?=some d
theorem Z6{ls:List aG}{ds:List Tx}{x:aG}{d:Tx}:YN ls ds x d↔(x,d)∈ls.zip ds:=by
 unfold YN;rw[bJ];constructor
 ·rintro⟨i,h1,h2⟩;exact⟨i,by rw[acu];exact⟨h1,h2⟩⟩
 ·rintro⟨i,h⟩;rw[acu] at h;exact⟨i,h.1,h.2⟩
theorem Me{p1 r1:List aG}{p2 r2:List Tx}{x y:aG}{d e:Tx}(h:p1.length=p2.length):YN (p1++[x]++r1) (p2++[d]++r2) y e↔(y=x∧e=d)∨YN (p1++r1) (p2++r2) y e:=by
 rw[Z6,Z6,pZ,pZ,List.zip_append h,List.zip_append h];simp only[TU,List.zip_cons_cons,QD,IQ,GK];constructor
 ·rintro(q|q|q)
  ·exact .inr (.inl q)
  ·exact .inl q
  ·exact .inr (.inr q)
 ·rintro(q|q|q)
  ·exact .inr (.inl q)
  ·exact .inl q
  ·exact .inr (.inr q)
theorem EE{ls:List aG}{ds:List Tx}(hl:ds.length=ls.length){x:aG}(hx:x∈ls):∃d,YN ls ds x d:=by
 obtain⟨i,hi⟩:=bJ.1 hx;have:=aI hi;exact⟨ds[i],i,hi,kL (by omega)⟩
theorem YN.mem{ls:List aG}{ds:List Tx}{x:aG}{d:Tx}(h:YN ls ds x d):x∈ls:=by
 obtain⟨i,h1,_⟩:=h;exact gm h1
theorem H8{ls:List aG}{ds:List Tx}(hu:uT (·.1) ls){x:aG}{d:Tx}(h:YN ls ds x d):EP ls ds x.1=d:=by
 obtain⟨i,h1,h2⟩:=h;unfold EP;rw[wP hu h1];dsimp only;rw[h2];rfl
theorem RH{ls ls':List aG}{ds ds':List Tx}(hu:uT (·.1) ls)(Kb:uT (·.1) ls')(hl:ds.length=ls.length)(hl':ds'.length=ls'.length){q:Tx}
  (h:∀(x:aG) (d:Tx),x.1≠q→(YN ls' ds' x d↔YN ls ds x d)) (hp:∀x∈ls,x.2.1≠q) (hq:(∀x∈ls,x.1≠q)∨(∀x∈ls',x.1≠q)) {id:Tx} (hid:id≠q) :
  bV ls' id=bV ls id∧j9 ls' ds' id=j9 ls ds id:=by
 have hm:∀x:aG,x.1≠q→(x∈ls'↔x∈ls):=fun x hx=>by
  constructor
  ·intro k;obtain⟨d,hd⟩:=EE hl' k;exact((h x d hx).1 hd).mem
  ·intro k;obtain⟨d,hd⟩:=EE hl k;exact((h x d hx).2 hd).mem
 have hc:bV ls' id=bV ls id:=aha hu Kb hm hp 16 id [] hid;refine⟨hc,?_⟩;unfold j9;rw[hc];have:((bV ls id).1.reverse.map fun x=>EP ls' ds' x.1)=((bV ls id).1.reverse.map fun x=>EP ls ds x.1):=by
  apply TW;intro x hx;rw[acY] at hx;have k1:=(Ew (ls:=ls) (id:=id)).1 x hx;have k2:=(Ew (ls:=ls') (id:=id)).1 x (by rw[hc];exact hx);have hxq:x.1≠q:=hq.elim (fun g=>g x k1) (fun g=>g x k2);obtain⟨d,hd⟩:=EE hl k1;rw[H8 hu hd,H8 Kb ((h x d hxq).2 hd)]
 rw[this]
end Go.Ge
namespace Go.Ge
variable [Lp]
theorem YO:∀(r:List Tx) (t:List Nd),Valid t→(CA r t).2=0→Valid (CA r t).1:=by
 intro r;induction r with
 | nil=>intro t h _;exact h
 | cons s r ih =>
   intro t h hq;unfold CA at hq⊢;by_cases c:(qb t s).2=0
   ·rw[bu c] at hq⊢;rcases Rw h s with ⟨_,v,_⟩|⟨v,_⟩
    ·exact ih _ v hq
    ·exact absurd c v
   ·rw[br c] at hq⊢;exact absurd hq c
theorem Wd{ls:List aG}{ds:List Tx}{id:Tx}(h:(j9 ls ds id).2=0):(bV ls id).2=0∧j9 ls ds id=CA ((bV ls id).1.reverse.map fun x=>EP ls ds x.1) []:=by
 unfold j9 at h⊢;by_cases c:(bV ls id).2=0
 ·rw[bu c];exact⟨c,rfl⟩
 ·rw[br c] at h;exact absurd h c
theorem RI:Valid []:=HX aeS.1
theorem xY.more{p1 r1:List aG}{p2 r2:List Tx}{x:aG}{d:Tx}(h12:p1.length=p2.length)(hu:uT (·.1) (p1++r1))(Kb:uT (·.1) (p1++[x]++r1))(ho:xY (p1++r1) (p2++r2))
  (hnew:∀y∈p1++r1,y.1≠x.1) (hne:x.1≠[]) (hpx:x.2.1≠x.1) (hpar:x.2.1=[]∨((bV (p1++r1) x.2.1).2=0∧(bV (p1++r1) x.2.1).1.length<16))
  (hd:x.2.2.2.2.2.2.1=true∧x.2.2.2.2.2.1=0∧x.2.2.2.2.1=(d.length:Int)∧x.2.2.2.1=zN d∧DH d)
  (hap:(qb (if x.2.1=[] then [] else(j9 (p1++r1) (p2++r2) x.2.1).1) d).2=0):xY (p1++[x]++r1) (p2++[d]++r2):=by
 have hlen:(p2++r2).length=(p1++r1).length:=ho.same;have hlen':(p2++[d]++r2).length=(p1++[x]++r1).length:=by
  simp only[iO,WG] at hlen⊢;omega
 have jt:∀(y:aG) (e:Tx),y.1≠x.1→(YN (p1++[x]++r1) (p2++[d]++r2) y e↔YN (p1++r1) (p2++r2) y e):=fun y e hy=>by
  rw[Me h12];constructor
  ·rintro(q|q)
   ·exact absurd (congrArg (·.1) q.1) hy
   ·exact q
  ·exact .inr
 have hps:∀y∈p1++r1,y.2.1≠x.1:=fun y hy e=>by
  rcases RG hu hy (ho.chain y hy) with q|⟨z,hz,q⟩
  ·exact hne (e.symm.trans q)
  ·exact hnew z hz (q.trans e)
 have hxm:x∈p1++[x]++r1:=by simp
 have hmem:∀y∈p1++[x]++r1,y=x∨y∈p1++r1:=fun y hy=>by
  simp only[QD,Cw] at hy⊢;rcases hy with (q|q)|q
  ·exact .inr (.inl q)
  ·exact .inl q
  ·exact .inr (.inr q)
 have abV:∀{id:Tx},id≠x.1→bV (p1++[x]++r1) id=bV (p1++r1) id∧j9 (p1++[x]++r1) (p2++[d]++r2) id=j9 (p1++r1) (p2++r2) id :=
  fun {id} hid=>RH hu Kb hlen hlen' jt hps (.inl hnew) hid
 have SL:EP (p1++[x]++r1) (p2++[d]++r2) x.1=d:=H8 Kb ((Me h12).2 (.inl ⟨rfl,rfl⟩));have key:(bV (p1++[x]++r1) x.1).2=0∧(j9 (p1++[x]++r1) (p2++[d]++r2) x.1).2=0:=by
  by_cases hp:x.2.1=[]
  ·have hc:bV (p1++[x]++r1) x.1=([x],0):=by
    unfold bV;rw[sV Kb hxm,bu hp];rfl
   rw[bu hp] at hap;unfold j9;rw[hc,bu rfl];refine⟨rfl,?_⟩;show(CA [EP (p1++[x]++r1) (p2++[d]++r2) x.1] []).2=0
   rw[SL];unfold CA;rw[bu hap];rfl
  ·rcases hpar with q|⟨c0,c1⟩
   ·exact absurd q hp
   rw[br hp] at hap;obtain⟨k1,k2⟩:=abV hpx;obtain⟨y,hy,hyp⟩:∃y∈p1++r1,y.1=x.2.1:=by
    apply KU;intro q;unfold bV at c0;rw[BL (fun y hy e=>q ⟨y,hy,e⟩)] at c0;cases c0
   have ht:(j9 (p1++r1) (p2++r2) x.2.1).2=0:=by
    obtain⟨i,hi⟩:=bJ.1 hy;have:=aI hi;rw[←hyp];exact(ho.each i y (p2++r2)[i] hi (kL (by omega))).2.2.2.2.2
   obtain⟨t1,t2⟩:=Wd ht;obtain⟨c,e1,e2⟩:=abU Kb 16 x.2.1 [] (by have:=k1;unfold bV at this c0;rw[this];exact c0);have e1':(bV (p1++r1) x.2.1).1=c:=by rw[←k1];exact e1
   rw[e1'] at c1 t2;have hc:bV (p1++[x]++r1) x.1=(x::c,0):=by
    unfold bV;rw[sV Kb hxm,br hp,e2 15 _ (by omega)];rfl
   unfold j9;rw[hc,bu rfl];refine⟨rfl,?_⟩;rw[k2.symm] at t2 hap ht;rw[show(x::c,(0:Int)).1=x::c from rfl,List.reverse_cons,List.map_append,List.map_singleton,SL];have hmap:(c.reverse.map fun z=>EP (p1++[x]++r1) (p2++[d]++r2) z.1)=(c.reverse.map fun z=>EP (p1++r1) (p2++r2) z.1):=by
    apply TW;intro z hz;rw[acY] at hz;have hz':z∈p1++r1:=(Ew (ls:=p1++r1) (id:=x.2.1)).1 z (by rw[e1'];exact hz);obtain⟨e,he⟩:=EE hlen hz';rw[H8 hu he,H8 Kb ((jt z e (hnew z hz')).2 he)]
   rw[hmap,abP _ d [] (j9 (p1++[x]++r1) (p2++[d]++r2) x.2.1).1 (Prod.ext (by rw[t2]) (by rw[←t2];exact ht)),bu hap]
 refine⟨hlen',fun y hy=>?_,fun i y e hi he=>?_⟩
 ·rcases hmem y hy with rfl|hy'
  ·exact key.1
  ·rw[(abV (hnew y hy')).1];exact ho.chain y hy'
 ·have ha:YN (p1++[x]++r1) (p2++[d]++r2) y e:=⟨i,hi,he⟩;rcases(Me h12).1 ha with ⟨rfl,rfl⟩|⟨j,g1,g2⟩
  ·exact⟨hd.1,hd.2.1,hd.2.2.1,hd.2.2.2.1,hd.2.2.2.2,key.2⟩
  ·obtain⟨a1,a2,a3,a4,a5,a6⟩:=ho.each j y e g1 g2;exact⟨a1,a2,a3,a4,a5,by rw[(abV (hnew y (gm g1))).2];exact a6⟩
theorem xY.less{p1 r1:List aG}{p2 r2:List Tx}{x:aG}{d:Tx}(h12:p1.length=p2.length)(hu:uT (·.1) (p1++r1))(Kb:uT (·.1) (p1++[x]++r1))(ho:xY (p1++[x]++r1) (p2++[d]++r2))
  (hp:∀y∈p1++[x]++r1,y.2.1≠x.1):xY (p1++r1) (p2++r2):=by
 have hlen':=ho.same;have hlen:(p2++r2).length=(p1++r1).length:=by
  simp only[iO,WG] at hlen'⊢;omega
 have hnew:∀y∈p1++r1,y.1≠x.1:=fun y hy e=>by
  unfold uT at Kb;have hpm:(p1++[x]++r1).Perm (x::(p1++r1)):=by
   rw[pZ];exact List.perm_middle
  have hnd:((p1++[x]++r1).map (·.1)).Nodup:=Kb.imp fun {a b} q=>Ga q;rw[(hpm.map _).nodup_iff,JY,List.nodup_cons] at hnd;exact hnd.1 (List.mem_map.2 ⟨y,hy,e⟩)
 have jt:∀(y:aG) (e:Tx),y.1≠x.1→(YN (p1++r1) (p2++r2) y e↔YN (p1++[x]++r1) (p2++[d]++r2) y e):=fun y e hy=>by
  rw[Me h12];constructor
  ·exact .inr
  ·rintro(q|q)
   ·exact absurd (congrArg (·.1) q.1) hy
   ·exact q
 have abV:∀{id:Tx},id≠x.1→bV (p1++r1) id=bV (p1++[x]++r1) id∧j9 (p1++r1) (p2++r2) id=j9 (p1++[x]++r1) (p2++[d]++r2) id :=
  fun {id} hid=>RH Kb hu hlen' hlen jt hp (.inr hnew) hid
 have hsub:∀y∈p1++r1,y∈p1++[x]++r1:=fun y hy=>by
  simp only[QD,Cw] at hy⊢;rcases hy with q|q
  ·exact .inl (.inl q)
  ·exact .inr q
 refine⟨hlen,fun y hy=>?_,fun i y e hi he=>?_⟩
 ·rw[(abV (hnew y hy)).1];exact ho.chain y (hsub y hy)
 ·have hym:=gm hi;obtain⟨j,g1,g2⟩:=(jt y e (hnew y hym)).1 ⟨i,hi,he⟩;obtain⟨a1,a2,a3,a4,a5,a6⟩:=ho.each j y e g1 g2;exact⟨a1,a2,a3,a4,a5,by rw[(abV (hnew y hym)).2];exact a6⟩
theorem afd:Fc (vI 1024)=([],0):=by
 unfold Fc;rw[YB]
theorem abW:DH (vI 1024):=by
 unfold DH;rw[afd];exact⟨rfl,rfl⟩
theorem ahb{t:List Nd}(h:Valid t):qb t (vI 1024)=(t,0):=by
 unfold qb;rw[afd,bu rfl];unfold pV;rw[bu h];rfl
end Go.Ge
