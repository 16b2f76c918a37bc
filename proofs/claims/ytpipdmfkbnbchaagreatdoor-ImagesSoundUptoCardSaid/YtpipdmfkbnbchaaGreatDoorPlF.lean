/- Plain laws of what the functions compute: part 6. -/
import Derived.Test.YtpipdmfkbnbchaaGreatDoorPlE
import Derived.Test.YtpipdmfkbnbchaaGreatDoorGeI
namespace Go.Ge
set_option linter.unusedSectionVars false
variable [Lp]
set_option linter.unusedVariables false
set_option linter.unusedSimpArgs false
def EI(t:List Nd)(q:List UInt8):Option Nd:=t.find? fun x=>decide (x.1=q)
theorem TM(t:List Nd)(q:List UInt8):findF t q=match EI t q with
 | some x=>(x,(true,()))
 | none=>(Xl,(false,())):=rfl
theorem at_mem{t:List Nd}{q:List UInt8}{x:Nd}(h:EI t q=some x):x∈t∧x.1=q:=by
 unfold EI at h
 exact⟨List.mem_of_find?_eq_some h,by have:=List.find?_some h;simpa using this⟩
theorem yb{t:List Nd}(ho:Ord t){q:List UInt8}{x:Nd}:EI t q=some x↔x∈t∧x.1=q:=by
 constructor
 ·exact at_mem
 ·rintro⟨h1,h2⟩
  have:=Jy ho h1 h2
  rw[TM] at this
  cases ha:EI t q with
  | none=>rw[ha] at this;cases (Prod.mk.inj (Prod.mk.inj this).2).1
  | some y=>rw[ha] at this;rw[(Prod.mk.inj this).1]
theorem TN{a b:Option Nd}(h:∀x,a=some x↔b=some x):a=b:=by
 cases a with
 | none =>
   cases b with
   | none=>rfl
   | some y=>exact absurd ((h y).2 rfl) (by simp)
 | some x=>exact((h x).1 rfl).symm
theorem Vf:∀{l m:List Nd},(l.Pairwise fun x y=>cmpL (key x) (key y)<0)→(m.Pairwise fun x y=>cmpL (key x) (key y)<0)→(∀c,c∈l↔c∈m)→l=m:=by
 intro l
 induction l with
 | nil =>
   intro m _ _ h
   cases m with
   | nil=>rfl
   | cons d m=>exact absurd ((h d).2 (by simp)) (by simp)
 | cons c l ih =>
   intro m hl hm h
   cases m with
   | nil=>exact absurd ((h c).1 (by simp)) (by simp)
   | cons d m =>
     rw[List.pairwise_cons] at hl hm
     have irr:∀x:Nd,¬cmpL (key x) (key x)<0:=fun x=>by rw[oW];omega
     have hcd:c=d:=by
      have h1:c=d∨c∈m:=by simpa using(h c).1 (by simp)
      have h2:d=c∨d∈l:=by simpa using(h d).2 (by simp)
      rcases h1 with e|h1
      ·exact e
      ·rcases h2 with e|h2
       ·exact e.symm
       ·exact absurd (uj (hl.1 d h2) (hm.1 c h1)) (irr c)
     subst hcd
     rw[ih hl.2 hm.2 fun q=>?_]
     constructor
     ·intro hq
      rcases List.mem_cons.1 ((h q).1 (List.mem_cons_of_mem _ hq)) with e|e
      ·subst e;exact absurd (hl.1 q hq) (irr q)
      ·exact e
     ·intro hq
      rcases List.mem_cons.1 ((h q).2 (List.mem_cons_of_mem _ hq)) with e|e
      ·subst e;exact absurd (hm.1 q hq) (irr q)
      ·exact e
theorem aaT{s t:List Nd}(hs:Ord s)(ht:Ord t)(h:∀q,EI s q=EI t q):s=t :=
 Vf (Fx.1 hs) (Fx.1 ht) fun c=>by
  have a:=yb hs (q:=c.1) (x:=c)
  have b:=yb ht (q:=c.1) (x:=c)
  rw[h c.1] at a
  constructor
  ·intro hc;exact(b.1 (a.2 ⟨hc,rfl⟩)).1
  ·intro hc;exact(a.1 (b.2 ⟨hc,rfl⟩)).1
theorem Vg{l:List Nd}(hv:Valid l){p:List UInt8}(hp:p≠[]):∀(m:Nat) (x:Nd),x∈l→(parts x.1).length≤m→cC (parts x.1) (parts p)=true→∃y∈l,y.1=p∧y.2.1=2:=by
 intro m
 induction m with
 | zero =>
   intro x hx hm hu
   unfold cC at hu
   have:=(of_decide_eq_true hu).1
   omega
 | succ m ih =>
   intro x hx hm hu
   by_cases hex:∃y∈l,y.1=p
   ·by_cases h0:(bD x.1).1=[]
    ·exfalso
     have hu2:=hu
     unfold cC at hu2
     have h1:=(of_decide_eq_true hu2).1
     have hmay:=hv.may x hx
     unfold jB zR at hmay
     simp only[Bool.and_eq_true,decide_eq_true_eq] at hmay
     have hall:=hmay.1.1.1.1.1.1.1.2
     have hone:(parts x.1).length≤1:=by
      rcases si x.1 with ⟨a,_⟩|⟨a,b,e1,e2,e⟩
      ·unfold parts
       split
       ·simp
       ·rw[mT _ a];simp
      ·rw[e] at h0
       have h0:a=[]:=h0
       subst h0
       have:yS []=true:=List.all_eq_true.1 hall [] (by
        unfold parts
        rw[e1,if_neg (by simp)]
        show []∈cv ([]++47::b)
        rw[CA [] (by simp)]
        simp)
       exact absurd this (by decide)
     have hpn:parts p=[]:=List.length_eq_zero_iff.1 (by omega)
     have:=fG p
     rw[hpn] at this
     exact hp this.symm
    ·rcases hv.up x hx with e|⟨y,hy,hy1,hy2⟩
     ·exact absurd e h0
     ·have hk:=xY h0
      rw[←hy1] at hk
      unfold cC at hu
      obtain⟨h1,h2⟩:=of_decide_eq_true hu
      rw[hk] at h1 h2
      have hle:(parts p).length≤(parts y.1).length:=by simp at h1;omega
      rw[List.take_append_of_le_length hle] at h2
      rcases Nat.lt_or_ge (parts p).length (parts y.1).length with g|g
      ·exact ih y hy (by rw[hk] at hm;simp at hm;omega) (by unfold cC;exact decide_eq_true ⟨g,h2⟩)
      ·have he:parts p=parts y.1:=by rw[←h2,List.take_of_length_le (by omega)]
       exact⟨y,hy,by rw[←fG y.1,←he,fG],hy2⟩
   ·have:=Jx hv hp (fun y hy e=>hex ⟨y,hy,e⟩) _ x hx (Nat.le_refl _)
    rw[this] at hu;cases hu
theorem TO{t:List Nd}{n:Nd}(h:(cg t n).2=0)(q:List UInt8) :
  EI (cg t n).1 q=if q=n.1 then some n else if cC (parts q) (parts n.1)=true∧n.2.1≠2 then none else EI t q:=by
 rcases JB t n with ⟨_,h2⟩|⟨h1,h2,h3,r,h4,h5,h6⟩
 ·exact absurd h h2
 have hvalid:=Mc h1 h2 h3 h4 h5
 have hne:=TJ h2
 rw[h6]
 dsimp only
 refine TN fun x=>?_
 rw[yb hvalid.ord,su]
 obtain⟨hsub,_⟩:=h4.sub
 by_cases hq:q=n.1
 ·rw[if_pos hq]
  constructor
  ·rintro⟨e|hx,hx1⟩
   ·rw[e]
   ·exact absurd (hx1.trans hq) (hsub x hx).2
  ·intro e
   obtain rfl:=Option.some.inj e
   exact⟨.inl rfl,hq.symm⟩
 ·rw[if_neg hq]
  have hin:(x=n∨x∈r)∧x.1=q↔x∈r∧x.1=q:=by
   constructor
   ·rintro⟨e|hx,hx1⟩
    ·subst e;exact absurd hx1.symm hq
    ·exact⟨hx,hx1⟩
   ·rintro⟨hx,hx1⟩;exact⟨.inr hx,hx1⟩
  rw[hin]
  rcases h4 with ⟨⟨⟨d,hd,hd1,hd2⟩,hn2⟩,rfl⟩|⟨hno,rfl⟩
  ·rw[if_neg (fun z=>z.2 hn2),yb h1.ord,List.mem_filter]
   constructor
   ·rintro⟨⟨a,_⟩,b⟩;exact⟨a,b⟩
   ·rintro⟨a,b⟩;exact⟨⟨a,by simp only[Bool.not_eq_true',decide_eq_false_iff_not];rw[b];exact hq⟩,b⟩
  ·unfold uA
   rw[List.mem_filter]
   by_cases hu:cC (parts q) (parts n.1)=true
   ·by_cases hk:n.2.1=2
    ·rw[if_neg (fun z=>z.2 hk),yb h1.ord]
     constructor
     ·rintro⟨⟨a,b⟩,c⟩;exact⟨a,c⟩
     ·rintro⟨a,c⟩
      exfalso
      have:=Vg h1 hne _ x a (Nat.le_refl _) (by rw[c];exact hu)
      exact hno ⟨this,hk⟩
    ·rw[if_pos ⟨hu,hk⟩]
     constructor
     ·rintro⟨⟨a,b⟩,c⟩
      unfold gone at b
      rw[c,hu] at b
      simp at b
     ·intro e;cases e
   ·rw[if_neg (fun z=>hu z.1),yb h1.ord]
    constructor
    ·rintro⟨⟨a,b⟩,c⟩;exact⟨a,c⟩
    ·rintro⟨a,c⟩
     refine⟨⟨a,?_⟩,c⟩
     unfold gone
     rw[c,decide_eq_false hq,show cC (parts q) (parts n.1)=false by simpa using hu];rfl
def K1(q:List UInt8)(s:Option Nd):Option Nd:=match s with
 | some x=>if x.2.1=2 then some x else some (kr 493 q)
 | none=>some (kr 493 q)
theorem Qg{t:List Nd}(p:List UInt8):((findF t p).2.1=true∧(findF t p).1.2.1=2)↔∃x,EI t p=some x∧x.2.1=2:=by
 rw[TM]
 cases EI t p with
 | none=>simp
 | some x=>simp
theorem Xx{ns:List (List UInt8)}(h:JC ns){i j:Nat}(hi:i<ns.length)(hj:j<ns.length)(e:eW ns i=eW ns j):i=j:=by
 have:=congrArg (fun p=>(parts p).length) e
 simp only[CN h,List.length_take] at this
 omega
theorem Zh{ns:List (List UInt8)}(h:JC ns)(n:Nat)(hn:n≤ns.length)(q:List UInt8):∀(d i:Nat) (t:List Nd),i+d=n→Valid t →
  (gT ((ns.take n).drop i) (aM (ns.take i)) t).2=0 →
  ((∃j,i≤j∧j<n∧q=eW ns j)→EI (gT ((ns.take n).drop i) (aM (ns.take i)) t).1 q=K1 q (EI t q)) ∧
  ((¬∃j,i≤j∧j<n∧q=eW ns j)→EI (gT ((ns.take n).drop i) (aM (ns.take i)) t).1 q=EI t q):=by
 intro d
 induction d with
 | zero =>
   intro i t hi hv _
   obtain rfl:i=n:=by omega
   rw[List.drop_of_length_le (by rw[List.length_take];omega)]
   exact⟨fun⟨j,a,b,_⟩=>absurd a (by omega),fun _=>rfl⟩
 | succ d ih =>
   intro i t hi hv h0
   have hx:ns[i]?=some ns[i]:=List.getElem?_eq_getElem (by omega)
   have Qb:(ns.take n).drop i=ns[i]::(ns.take n).drop (i+1):=by
    rw[List.drop_eq_getElem_cons (by rw[List.length_take];omega),List.getElem_take]
   have hj:=uB h hx
   have I0:eW ns i=aM (ns.take (i+1)):=rfl
   rw[Qb] at h0⊢
   unfold gT at h0⊢
   rw[hj] at h0⊢
   have cases':(∃j,i≤j∧j<n∧q=eW ns j)↔(q=eW ns i∨∃j,i+1≤j∧j<n∧q=eW ns j):=by
    constructor
    ·rintro⟨j,a,b,c⟩
     by_cases e:j=i
     ·subst e;exact .inl c
     ·exact .inr ⟨j,by omega,b,c⟩
    ·rintro(c|⟨j,a,b,c⟩)
     ·exact⟨i,Nat.le_refl _,by omega,c⟩
     ·exact⟨j,by omega,b,c⟩
   have apart:q=eW ns i→¬∃j,i+1≤j∧j<n∧q=eW ns j:=by
    rintro e ⟨j,a,b,c⟩
    have:=Xx h (by omega) (by omega) (e.symm.trans c)
    omega
   by_cases hc:(findF t (eW ns i)).2.1=true∧(findF t (eW ns i)).1.2.1=2
   ·rw[if_pos hc] at h0⊢
    rw[I0] at h0⊢
    obtain⟨k1,k2⟩:=ih (i+1) t (by omega) hv h0
    rw[cases']
    obtain⟨x,x1,x2⟩:=(Qg _).1 hc
    constructor
    ·rintro(e|e)
     ·rw[k2 (apart e),e,x1]
      unfold K1
      simp only[if_pos x2]
     ·exact k1 e
    ·intro e
     exact k2 fun z=>e (.inr z)
   ·rw[if_neg hc] at h0⊢
    by_cases hp:(cg t (kr 493 (eW ns i))).2=0
    ·rw[if_pos hp] at h0⊢
     rw[I0] at h0⊢
     obtain⟨k1,k2⟩:=ih (i+1) _ (by omega) (uC hp) h0
     have hput:=TO hp q
     rw[←I0] at k1 k2
     rw[cases']
     have hk2:¬(kr 493 (eW ns i)).2.1≠2:=fun z=>z rfl
     rw[if_neg (fun z:cC (parts q) (parts (kr 493 (eW ns i)).1)=true∧(kr 493 (eW ns i)).2.1≠2=>hk2 z.2)] at hput
     constructor
     ·rintro(e|e)
      ·rw[if_pos (show q=(kr 493 (eW ns i)).1 from e)] at hput
       rw[←I0,k2 (apart e),hput]
       unfold K1
       rw[Qg] at hc
       cases ha:EI t q with
       | none=>dsimp only;rw[e]
       | some x =>
         dsimp only
         rw[if_neg (fun z=>hc ⟨x,by rw[←e];exact ha,z⟩),e]
      ·rw[if_neg (fun z:q=(kr 493 (eW ns i)).1=>apart z e)] at hput
       rw[←I0,k1 e,hput]
     ·intro e
      rw[if_neg (fun z:q=(kr 493 (eW ns i)).1=>e (.inl z))] at hput
      rw[←I0,k2 fun z=>e (.inr z),hput]
    ·rw[if_neg hp] at h0
     exact absurd h0 hp
def Zi(ns:List (List UInt8))(n:Nd)(q:List UInt8)(s:Option Nd):Option Nd :=
 if q=n.1 then some n else if cC (parts q) ns=true∧n.2.1≠2 then none else if cC ns (parts q)=true∧q≠[] then K1 q s else s
theorem Vh{ns:List (List UInt8)}(h:JC ns)(q:List UInt8):(∃j,0≤j∧j<ns.length-1∧q=eW ns j)↔(cC ns (parts q)=true∧q≠[]):=by
 constructor
 ·rintro⟨j,_,hj,rfl⟩
  rw[CN h]
  constructor
  ·unfold cC
   refine decide_eq_true ⟨?_,?_⟩
   ·rw[List.length_take];omega
   ·rw[List.length_take,Nat.min_eq_left (by omega)]
  ·intro e
   have:=congrArg (fun p=>(parts p).length) e
   simp only[CN h,List.length_take,show(parts []).length=0 from rfl] at this
   omega
 ·rintro⟨hu,hq⟩
  unfold cC at hu
  obtain⟨h1,h2⟩:=of_decide_eq_true hu
  have hpos:0<(parts q).length:=by
   apply Nat.pos_of_ne_zero
   intro e
   have:=fG q
   rw[List.length_eq_zero_iff.1 e] at this
   exact hq this.symm
  refine⟨(parts q).length-1,Nat.zero_le _,by omega,?_⟩
  unfold eW
  rw[show(parts q).length-1+1=(parts q).length by omega,h2,fG]
theorem Zj{ns:List (List UInt8)}(h:JC ns){t:List Nd}(hv:Valid t){n:Nd}(hn:n.1=aM ns)(h0:(uD ns t n).2=0)(q:List UInt8):EI (uD ns t n).1 q=Zi ns n q (EI t q):=by
 have hlt:ns.take (ns.length-1)=ns.dropLast:=List.dropLast_eq_take.symm
 have X6:aM (ns.take 0)=[]:=by simp[aM]
 unfold uD at h0⊢
 by_cases hd:(gT ns.dropLast [] t).2=0
 ·rw[if_pos hd] at h0⊢
  have hda:=Zh h (ns.length-1) (by omega) q (ns.length-1) 0 t (by omega) hv (by rw[List.drop_zero,hlt,X6];exact hd)
  rw[List.drop_zero,hlt,X6,Vh h] at hda
  rw[TO h0 q,hn,mj ns h]
  unfold Zi
  rw[hn]
  by_cases h1:q=aM ns
  ·rw[if_pos h1,if_pos h1]
  ·rw[if_neg h1,if_neg h1]
   by_cases h2:cC (parts q) ns=true∧n.2.1≠2
   ·rw[if_pos h2,if_pos h2]
   ·rw[if_neg h2,if_neg h2]
    by_cases h3:cC ns (parts q)=true∧q≠[]
    ·rw[if_pos h3,hda.1 h3]
    ·rw[if_neg h3,hda.2 h3]
 ·rw[if_neg hd] at h0
  exact absurd h0 hd
def Vi(q:List UInt8)(s:Option Nd)(p:Pt):Option Nd:=if(ck p).1=0∧(ck p).2.1≠[] then Zi (ck p).2.1 (lg p (aM (ck p).2.1)) q s else s
def JH(q:List UInt8)(p:Pt):Bool:=(decide ((ck p).1=1)&&(decide (q=aM (ck p).2.1)||cC (parts q) (ck p).2.1))||(decide ((ck p).1=2)&&cC (parts q) (ck p).2.1)
def Xy(q:List UInt8)(ps:List Pt)(s:Option Nd):Option Nd:=if ps.any (JH q)=true then none else s
theorem aaU:∀(ps:List Pt) (t:List Nd),Valid t→(vP ps t).2=0→∀q,EI (vP ps t).1 q=ps.foldl (Vi q) (EI t q):=by
 intro ps
 induction ps with
 | nil=>intro t _ _ q;rfl
 | cons p r ih =>
   intro t hv h0 q
   unfold vP at h0⊢
   by_cases hp:(qo t p).2=0
   ·rw[if_pos hp] at h0⊢
    rw[ih _ (vo hv hp) h0 q,List.foldl_cons]
    congr 1
    unfold qo Vi at *
    by_cases hc:(ck p).1=0∧(ck p).2.1≠[]
    ·rw[if_pos hc] at hp⊢
     rw[if_pos hc]
     exact Zj (Aa p).1 hv rfl hp q
    ·rw[if_neg hc,if_neg hc]
   ·rw[if_neg hp] at h0
    exact absurd h0 hp
theorem aaV{t:List Nd}(hv:Valid t)(p:Pt)(q:List UInt8):EI (Ab t p) q=if JH q p=true then none else EI t q:=by
 have hvt:=ya hv p
 have hsh:=Aa p
 have hpp:parts (aM (ck p).2.1)=(ck p).2.1:=mj _ hsh.1
 refine TN fun x=>?_
 rw[yb hvt.ord]
 have key:∀P:Nd→Bool,(∀x,x.1=q→P x=!JH q p)→((x∈t.filter P∧x.1=q)↔(if JH q p=true then none else EI t q)=some x):=by
  intro P hP
  rw[List.mem_filter]
  by_cases hb:JH q p=true
  ·rw[if_pos hb]
   constructor
   ·rintro⟨⟨_,a⟩,b⟩
    rw[hP x b,hb] at a;cases a
   ·intro e;cases e
  ·rw[if_neg hb,yb hv.ord]
   constructor
   ·rintro⟨⟨a,_⟩,b⟩;exact⟨a,b⟩
   ·rintro⟨a,b⟩;exact⟨⟨a,by rw[hP x b];simpa using hb⟩,b⟩
 unfold Ab
 by_cases h1:(ck p).1=1
 ·rw[if_pos h1]
  refine key _ fun y hy=>?_
  unfold gone JH
  rw[hy,hpp,h1];simp
 ·rw[if_neg h1]
  by_cases h2:(ck p).1=2
  ·rw[if_pos h2]
   refine key _ fun y hy=>?_
   unfold JH
   rw[hy,hpp,h2];simp
  ·rw[if_neg h2]
   have hb:JH q p=false:=by unfold JH;rw[decide_eq_false h1,decide_eq_false h2];rfl
   rw[if_neg (by rw[hb];decide),yb hv.ord]
theorem Vj:∀(ps:List Pt) (t:List Nd),Valid t→∀q,EI (ps.foldl Ab t) q=Xy q ps (EI t q):=by
 intro ps
 induction ps with
 | nil=>intro t _ q;rfl
 | cons p r ih =>
   intro t hv q
   rw[List.foldl_cons,ih _ (ya hv p) q,aaV hv p q]
   unfold Xy
   rw[List.any_cons]
   cases JH q p with
   | false=>rfl
   | true =>
     rw[if_pos rfl]
     simp
theorem SW{l:List Nd}(hv:Valid l){ps:List Pt}(ha:jD ps=true)(h0:(nE l ps).2=0):Valid (nE l ps).1∧∀q,EI (nE l ps).1 q=ps.foldl (Vi q) (Xy q ps (EI l q)):=by
 have hl:nE l ps=vP ps (ps.foldl Ab l):=by unfold nE;rw[if_pos hv,if_pos ha]
 rw[hl] at h0⊢
 have hf:=vp ps l hv
 refine⟨?_,fun q=>?_⟩
 ·rcases CO ps _ hf with ⟨_,h⟩|⟨h,_⟩
  ·exact h
  ·exact absurd h0 h
 ·rw[aaU ps _ hf h0 q,Vj ps l hv q]
end Go.Ge
namespace Go.Ge
set_option linter.unusedSectionVars false
variable [Lp]
set_option linter.unusedVariables false
set_option linter.unusedSimpArgs false
theorem Xz{l:List Nd}(hv:Valid l)(ps:List Pt):((nE l ps).2=0∧jD ps=true)∨((nE l ps).2≠0∧(nE l ps).1=[]∧((nE l ps).2=10∨(nE l ps).2=5)):=by
 by_cases ha:jD ps=true
 ·have hl:nE l ps=vP ps (ps.foldl Ab l):=by unfold nE;rw[if_pos hv,if_pos ha]
  rw[hl]
  have hf:=vp ps l hv
  rcases CO ps _ hf with ⟨a1,a2⟩|⟨a1,a2⟩
  ·exact .inl ⟨a1,ha⟩
  ·rcases Qf ps _ ha hf with b|b
   ·exact absurd b a1
   ·exact .inr ⟨a1,a2,.inr b⟩
 ·have hl:nE l ps=([],10):=by unfold nE;rw[if_pos hv,if_neg ha]
  rw[hl]
  exact .inr ⟨by decide,rfl,.inl rfl⟩
end Go.Ge
namespace Go.Ge
set_option linter.unusedSectionVars false
variable [Lp]
set_option linter.unusedVariables false
set_option linter.unusedSimpArgs false
def yc(q:List UInt8)(f:Option Nd→Option Nd):Prop:=(∃c,∀s,f s=c)∨(∀s,f s=K1 q s)∨(∀s,f s=s)
theorem Mf(q:List UInt8)(s:Option Nd):K1 q (K1 q s)=K1 q s:=by
 cases s with
 | none=>rfl
 | some x =>
   show K1 q (if x.2.1=2 then some x else some (kr 493 q))=if x.2.1=2 then some x else some (kr 493 q)
   by_cases h:x.2.1=2
   ·rw[if_pos h]
    show(if x.2.1=2 then some x else some (kr 493 q))=_
    rw[if_pos h]
   ·rw[if_neg h];rfl
theorem yc.comp{q:List UInt8}{f g:Option Nd→Option Nd}(hf:yc q f)(hg:yc q g):yc q (fun s=>f (g s)):=by
 rcases hf with ⟨c,hc⟩|hf|hf
 ·exact .inl ⟨c,fun s=>hc _⟩
 ·rcases hg with ⟨c,hc⟩|hg|hg
  ·exact .inl ⟨K1 q c,fun s=>by show f (g s)=_;rw[hf,hc]⟩
  ·exact .inr (.inl fun s=>by show f (g s)=_;rw[hf,hg,Mf])
  ·exact .inr (.inl fun s=>by show f (g s)=_;rw[hf,hg])
 ·rcases hg with ⟨c,hc⟩|hg|hg
  ·exact .inl ⟨c,fun s=>by show f (g s)=_;rw[hf,hc]⟩
  ·exact .inr (.inl fun s=>by show f (g s)=_;rw[hf,hg])
  ·exact .inr (.inr fun s=>by show f (g s)=_;rw[hf,hg])
theorem yc.acF{q:List UInt8}{f:Option Nd→Option Nd}(hf:yc q f)(s:Option Nd):f (f s)=f s:=by
 rcases hf with ⟨c,hc⟩|hf|hf
 ·rw[hc,hc]
 ·rw[hf,hf,Mf]
 ·rw[hf,hf]
theorem SX(q:List UInt8)(p:Pt):yc q (fun s=>Vi q s p):=by
 unfold Vi
 by_cases hc:(ck p).1=0∧(ck p).2.1≠[]
 ·simp only[if_pos hc]
  unfold Zi
  by_cases h1:q=(lg p (aM (ck p).2.1)).1
  ·simp only[if_pos h1];exact .inl ⟨_,fun _=>rfl⟩
  ·simp only[if_neg h1]
   by_cases h2:cC (parts q) (ck p).2.1=true∧(lg p (aM (ck p).2.1)).2.1≠2
   ·simp only[if_pos h2];exact .inl ⟨_,fun _=>rfl⟩
   ·simp only[if_neg h2]
    by_cases h3:cC (ck p).2.1 (parts q)=true∧q≠[]
    ·simp only[if_pos h3];exact .inr (.inl fun _=>rfl)
    ·simp only[if_neg h3];exact .inr (.inr fun _=>rfl)
 ·simp only[if_neg hc];exact .inr (.inr fun _=>rfl)
theorem Qh(q:List UInt8):∀(ps:List Pt),yc q (fun s=>ps.foldl (Vi q) s):=by
 intro ps
 induction ps with
 | nil=>exact .inr (.inr fun _=>rfl)
 | cons p r ih=>exact ih.comp (SX q p)
theorem Qi(q:List UInt8)(ps:List Pt):yc q (Xy q ps):=by
 unfold Xy
 by_cases h:ps.any (JH q)=true
 ·simp only[if_pos h];exact .inl ⟨_,fun _=>rfl⟩
 ·simp only[if_neg h];exact .inr (.inr fun _=>rfl)
theorem XA{l:List Nd}(hv:Valid l){ps:List Pt}(ha:jD ps=true):(nE l ps).2=0∨(nE l ps).2=5:=by
 have hl:nE l ps=vP ps (ps.foldl Ab l):=by unfold nE;rw[if_pos hv,if_pos ha]
 rw[hl]
 exact Qf ps _ ha (vp ps l hv)
theorem Vk{l:List Nd}(hv:Valid l){ps:List Pt}(ha:jD ps=true)(h0:(nE l ps).2=0):nE (nE l ps).1 ps=((nE l ps).1,0)∨(nE (nE l ps).1 ps).2=5:=by
 obtain⟨v1,a1⟩:=SW hv ha h0
 rcases XA v1 ha with h|h
 ·left
  obtain⟨v2,a2⟩:=SW v1 ha h
  have:(nE (nE l ps).1 ps).1=(nE l ps).1:=aaT v2.ord v1.ord fun q=>by
   rw[a2,a1]
   exact((Qh q ps).comp (Qi q ps)).acF (EI l q)
  exact Prod.ext this h
 ·exact .inr h
noncomputable def CV(s:List UInt8):List Pt×Int:=match mc (s,()) with
 | some (l,e,_)=>(l,e)
 | none=>([],10)
theorem TP(s:List UInt8):mc (s,())=some ((CV s).1,((CV s).2,()))∧Xu (CV s).1:=by
 obtain⟨ps,e,r1,r2,r3,_⟩:=Xg s
 unfold CV
 rw[r1]
 exact⟨rfl,Zg r2 r3⟩
noncomputable def uE(l:List Nd)(s:List UInt8):List Nd×Int:=if(CV s).2=0 then nE l (CV s).1 else([],10)
theorem Vl{l:List Nd}(hv:Valid l)(s:List UInt8):((uE l s).2=0∧Valid (uE l s).1∧(uE (uE l s).1 s=((uE l s).1,0)∨(uE (uE l s).1 s).2=5))∨((uE l s).2≠0∧(uE l s).1=[]):=by
 unfold uE
 by_cases h:(CV s).2=0
 ·rw[if_pos h]
  simp only[if_pos h]
  rcases Xz hv (CV s).1 with ⟨a,b⟩|⟨a,b,_⟩
  ·exact .inl ⟨a,(SW hv b a).1,Vk hv b a⟩
  ·exact .inr ⟨a,b⟩
 ·rw[if_neg h]
  exact .inr ⟨by decide,rfl⟩
noncomputable def NR:List (List UInt8)→List Nd→List Nd×Int
 | [],t=>(t,0)
 | s::r,t=>if(uE t s).2=0 then NR r (uE t s).1 else([],(uE t s).2)
end Go.Ge
namespace Go.Ge
set_option linter.unusedSectionVars false
variable [Lp]
set_option linter.unusedVariables false
set_option linter.unusedSimpArgs false
theorem Mg(b:List UInt8)(hb:b.length≤100000):tD (b,())=some (decide (b.length=512∧∀x∈b,x=0),()):=by
 have e0:∀y:UInt8,bC (u8 y) 0=decide (y=0):=fun y=>Bz (n:=0)
 have h:=Xr (f:=iB (b,())) b (fun i=>((false,((i:Int),())),())) (fun x=>!decide (x=0)) (fun j=>(1,((false,((j:Int),())),()))) (0,((false,((b.length:Int),())),())) (fun i x hx=>by
  have hi:=aH hx
  unfold iB
  dsimp only
  rw[au hi,ag,az hx,aa,e0,aZ (by omega)]
  cases decide (x=0)<;>rfl) (by
  unfold iB
  dsimp only
  rw[aE,af]) b.length 0 (by omega)
 unfold tD
 rcases h with ⟨j,x,_,hx,hp,_,hL⟩|⟨ha,hL⟩
 ·rw[show Loop (iB (b,())) ((false,((0:Int),())),())=_ from hL,aa,jc,af]
  have hx0:x≠0:=by simpa using hp
  rw[decide_eq_false fun q:b.length=512∧∀x∈b,x=0=>hx0 (q.2 x (List.mem_of_getElem? hx))]
 ·rw[show Loop (iB (b,())) ((false,((0:Int),())),())=_ from hL,aa,cG,ag]
  have hall:∀x∈b,x=0:=fun x hx=>by
   obtain⟨i,hi⟩:=bQ.1 hx
   simpa using ha i x (Nat.zero_le _) hi
  have:bC (len b) 512=decide (b.length=512∧∀x∈b,x=0):=by
   unfold bC len
   apply decide_eq_decide.2
   constructor
   ·intro h;exact⟨by omega,hall⟩
   ·intro h;omega
  rw[this]
theorem Vm(b:List UInt8)(hb:b.length≤100000):tE (b,())=some (decide (1024≤b.length∧b.length % 512=0∧∀x∈b,x=0),()):=by
 have e0:∀y:UInt8,bC (u8 y) 0=decide (y=0):=fun y=>Bz (n:=0)
 have h:=Xr (f:=iC (b,())) b (fun i=>((false,((i:Int),())),())) (fun x=>!decide (x=0)) (fun j=>(1,((false,((j:Int),())),()))) (0,((false,((b.length:Int),())),())) (fun i x hx=>by
  have hi:=aH hx
  unfold iC
  dsimp only
  rw[au hi,ag,az hx,aa,e0,aZ (by omega)]
  cases decide (x=0)<;>rfl) (by
  unfold iC
  dsimp only
  rw[aE,af]) b.length 0 (by omega)
 unfold tE
 dsimp only
 by_cases h1:1024≤b.length
 case neg =>
  rw[aT (by rw[bN];omega),aK,af,aa,ag,decide_eq_false fun q:1024≤b.length∧b.length % 512=0∧∀x∈b,x=0=>h1 q.1]
 rw[aJ (by rw[bN];omega),aF,ag,show bC 512 0=false from rfl,af,show ij (len b) 512=((b.length % 512:Nat):Int) from rfl]
 by_cases h2:b.length % 512=0
 case neg =>
  rw[aN (by omega),aF,aa,ag,decide_eq_false fun q:1024≤b.length∧b.length % 512=0∧∀x∈b,x=0=>h2 q.2.1]
 rw[aR (by omega),aK,aa,af]
 rcases h with ⟨j,x,_,hx,hp,_,hL⟩|⟨ha,hL⟩
 ·rw[show Loop (iC (b,())) ((false,((0:Int),())),())=_ from hL,aa,jc,af]
  have hx0:x≠0:=by simpa using hp
  rw[decide_eq_false fun q:1024≤b.length∧b.length % 512=0∧∀x∈b,x=0=>hx0 (q.2.2 x (List.mem_of_getElem? hx))]
 ·rw[show Loop (iC (b,())) ((false,((0:Int),())),())=_ from hL,aa,cG,ag]
  have hall:∀x∈b,x=0:=fun x hx=>by
   obtain⟨i,hi⟩:=bQ.1 hx
   simpa using ha i x (Nat.zero_le _) hi
  rw[decide_eq_true (⟨h1,h2,hall⟩:1024≤b.length∧b.length % 512=0∧∀x∈b,x=0)]
abbrev PS:=(List UInt8×(List Pt×(Bool×(Unit×Unit))))×(List Pt×Unit)
def Zk(r:List UInt8)(out:List Pt):PS:=((r,(([]:List Pt),(false,((),())))),(out,()))
theorem Mh(r:List UInt8)(out:List Pt)(hl:r.length≤8192):∃p ok st,bT ((),(rd r (out.length:Int),()))=some ((p,(ok,())),(st,())) ∧
  ((ok=false∧∃b z,st=zQ (out.length:Int) b∧dV (Zk r out)=some (.inr z)∧((z.1=0∧b=true)∨(z.1=1∧z.2.1.2.1=out∧z.2.1.2.2.1=!b))) ∨
   (ok=true∧∃r',st=rd r' ((out.length+1:Nat):Int)∧r'.length+512≤r.length∧out.length<64∧dV (Zk r out)=some (.inl (Zk r' (out++[p]))))):=by
 by_cases aaP:r.length<512
 ·refine⟨_,_,_,Jt r out.length aaP,.inl ⟨rfl,true,(0,Zk r out),rfl,?_,.inl ⟨rfl,rfl⟩⟩⟩
  unfold dV Zk
  dsimp only
  rw[eU (by rw[bN];omega),af]
 have ht:(r.take 512).length=512:=by rw[List.length_take];omega
 have hin:inside (0:Int) (512:Int) (len r)=true:=bB (by decide) (by decide) (by rw[bN];omega)
 by_cases hz:∀x∈r.take 512,x=0
 ·refine⟨_,_,_,L6 r out.length (by omega) (by omega) hz,.inl ⟨rfl,_,(1,((r,(out,(decide (1024≤r.length∧r.length % 512=0∧∀x∈r,x=0),((),())))),(out,()))),rfl,?_,.inr ⟨rfl,rfl,by simp⟩⟩⟩
  unfold dV Zk
  dsimp only
  rw[cz (by rw[bN];omega),ag,hin,ag,show sub r 0 (minus 512 0)=r.take 512 from jl r 512,Mg _ (by omega),aa,decide_eq_true (⟨ht,hz⟩:(r.take 512).length=512∧∀x∈r.take 512,x=0),ag,Vm r (by omega),aa]
 have e:=fun b=>Ed r (out.length:Int) b
 obtain⟨x,er,t1,t2⟩:=TH (r.take 512) ht
 have t3:=(take_same (r.take 512) ht).trans t1
 have hdl:(r.drop 512).length=r.length-512:=List.length_drop
 unfold bT dV Zk
 dsimp only[rd] at e⊢
 rw[aK,aF,ag,af,aJ (by rw[bN];omega),af,hin,ag,show sub r 0 (minus 512 0)=r.take 512 from jl r 512]
 rw[Jk (r.take 512) (by omega),aa,cz (a:=512) (b:=len r) (by rw[bN];omega),ag,ag,Mg _ (by omega),aa]
 dsimp only
 rw[decide_eq_false (fun q:(r.take 512).length=512∧∀x∈r.take 512,x=0=>hz q.2),af,af,ag,ag,t1,t3,aa,aa,bB (i:=512) (j:=len r) (n:=len r) (by decide) (by rw[bN];omega) (Int.le_refl _),ag,show sub r 512 (minus (len r) 512)=r.drop 512 from pV r 512 (by omega)]
 dsimp only
 by_cases he:er=0
 case neg =>
  rw[aN he,aF,ag,e,aa]
  exact⟨_,_,_,rfl,.inl ⟨rfl,_,_,rfl,rfl,.inr ⟨rfl,rfl,rfl⟩⟩⟩
 rw[aR he,aK,af]
 have hok:=t2 he
 obtain⟨s0,s1⟩:=hok.2.2.2.1
 obtain⟨k,hk⟩:=Int.eq_ofNat_of_zero_le s0
 rw[hk]
 by_cases h8:8192<k
 ·rw[aT (a:=len (r.drop 512)) (by rw[bN];omega),ag,e,aa,aT (a:=8192) (b:=(k:Int)) (by omega)]
  exact⟨_,_,_,rfl,.inl ⟨rfl,_,_,rfl,rfl,.inr ⟨rfl,rfl,rfl⟩⟩⟩
 have hf:=PY k
 rw[aJ (a:=8192) (b:=(k:Int)) (by omega),show kW ((k:Int),())=_ from P0 k (by omega),aa]
 dsimp only
 rw[show aI .i64 512 ((k+lG k:Nat):Int)=((512+(k+lG k):Nat):Int) from ux (a:=512) (by omega)]
 by_cases h1:(r.drop 512).length<k
 ·rw[aT (a:=len (r.drop 512)) (by rw[bN];omega),ag,e,aa,aT (a:=len r) (by rw[bN];omega)]
  exact⟨_,_,_,rfl,.inl ⟨rfl,_,_,rfl,rfl,.inr ⟨rfl,rfl,rfl⟩⟩⟩
 ·rw[aJ (a:=len (r.drop 512)) (by rw[bN];omega),af,PZ k (by omega),aa,iH (a:=(k:Int)) (by omega) (by omega)]
  dsimp only
  by_cases h2:(r.drop 512).length<k+lG k
  ·rw[aT (a:=len (r.drop 512)) (by rw[bN];omega),ag,e,aa,aT (a:=len r) (by rw[bN];omega)]
   exact⟨_,_,_,rfl,.inl ⟨rfl,_,_,rfl,rfl,.inr ⟨rfl,rfl,rfl⟩⟩⟩
  ·rw[aJ (a:=len (r.drop 512)) (by rw[bN];omega),af,aJ (a:=len r) (by rw[bN];omega)]
   by_cases h3:64≤out.length
   ·rw[cz (b:=(out.length:Int)) (by omega),ag,e,aa,cz (b:=len out) (by rw[bN];omega)]
    exact⟨_,_,_,rfl,.inl ⟨rfl,_,_,rfl,rfl,.inr ⟨rfl,rfl,rfl⟩⟩⟩
   ·rw[eU (b:=(out.length:Int)) (by omega),af,aa,iH (a:=(k:Int)) (by omega) (by omega),bB (i:=(k:Int)+(lG k:Int)) (by omega) (by rw[bN];omega) (Int.le_refl _),ag,bB (i:=0) (j:=(k:Int)) (by omega) (by omega) (by rw[bN];omega),ag]
    rw[show sub (r.drop 512) 0 (minus (k:Int) 0)=(r.drop 512).take k from jl _ k,show(k:Int)+(lG k:Int)=((k+lG k:Nat):Int) by omega,pV _ (k+lG k) (by omega),aZ (by omega)]
    rw[eU (b:=len out) (by rw[bN];omega)]
    have es:sub r 512 (minus ((512+k:Nat):Int) 512)=(r.drop 512).take k:=by
     unfold sub minus
     rw[show(((512+k:Nat):Int)-512).toNat=k by omega];rfl
    refine⟨_,_,_,rfl,.inr ⟨rfl,_,rfl,?_,by omega,?_⟩⟩
    ·rw[List.length_drop];omega
    ·rw[show aI .i64 512 ((k:Nat):Int)=((512+k:Nat):Int) from ux (a:=512) (by omega),es]
     rw[show aj (nt (aj (nt false) false true)) (some false) (some true)=some false from rfl]
     rw[aa,aF,ag,af,bB (i:=512) (by decide) (by omega) (by rw[bN];omega),ag,cM (by simp only[List.length_cons,List.length_nil];omega),ag,aa]
     dsimp only
     rw[show aI .i64 512 ((k+lG k:Nat):Int)=((512+(k+lG k):Nat):Int) from ux (a:=512) (by omega),bB (by omega) (by rw[bN];omega) (Int.le_refl _),ag,pV r (512+(k+lG k)) (by omega),List.drop_drop]
     rfl
theorem Vn:∀(m:Nat) (r:List UInt8) (out:List Pt) (p:Pt),r.length≤m→r.length≤8192→out.length≤63 →
  ∃(out':List Pt) (p':Pt) (b:Int×Bool) (z:Nat×PS),Loop gw (((),((),(true,()))),(p,(out,(rd r ((out.length+1:Nat):Int),()))))=some (((),((),(false,()))),(p',(out',(zQ b.1 b.2,())))) ∧
   Loop dV (Zk r (out++[p]))=some z∧((z.1=0∧b.2=true)∨(z.1=1∧z.2.1.2.1=out'∧z.2.1.2.2.1=!b.2)):=by
 intro m
 induction m using Nat.strongRecOn with
 | _ m ih =>
   intro r out p hm hr h63
   obtain⟨p1,ok1,st1,h1,h2⟩:=Mh r (out++[p]) hr
   have hlen:((out++[p]).length:Int)=((out.length+1:Nat):Int):=by simp
   rw[hlen] at h1
   have hstep:=L7 p out (rd r ((out.length+1:Nat):Int)) (by omega) h1
   rcases h2 with ⟨rfl,b,z,rfl,k1,k2⟩|⟨rfl,r',rfl,k3,k5,k4⟩
   ·refine⟨out++[p],p1,(((out++[p]).length:Int),b),z,?_,by rw[aV,k1];rfl,k2⟩
    rw[aV,hstep]
    show Loop _ _=_
    rw[aV,w8];rfl
   ·obtain⟨o,p',b,z,z1,z2,z3⟩:=ih r'.length (by omega) r' (out++[p]) p1 (Nat.le_refl _) (by omega) (by omega)
    exact⟨o,p',b,z,by rw[aV,hstep];exact z1,by rw[aV,k4];exact z2,z3⟩
theorem Mi(s:List UInt8):jY (s,())=mc (s,()):=by
 by_cases h8:8192<s.length
 ·rw[L8 s h8]
  unfold jY rG
  dsimp only
  rw[aT (by rw[bN];omega),ag,aa]
  rfl
 obtain⟨p,ok,st,h1,h2⟩:=Mh s [] (by omega)
 have fin:∀(b:Int×Bool) (o:List Pt),(ah (js ((),(zQ b.1 b.2,()))) fun y3=>aj y3.1.1 (some (([]:List Pt),((10:Int),()))) (some (o,((0:Int),()))))=some (if b.2=true then(([]:List Pt),((10:Int),())) else(o,((0:Int),()))):=fun b o=>by
  obtain⟨b1,b2⟩:=b
  cases b2<;>rfl
 have parts:∀(o:List Pt) (b:Bool) (z:Nat×PS),Loop dV (Zk s [])=some z→((z.1=0∧b=true)∨(z.1=1∧z.2.1.2.1=o∧z.2.1.2.2.1=!b))→jY (s,())=some (if b=true then(([]:List Pt),((10:Int),())) else(o,((0:Int),()))):=fun o b z hz hc=>by
  unfold jY rG
  dsimp only
  rw[aJ (by rw[bN];omega),af,show Loop dV ((s,(([]:List Pt),(false,((),())))),(([]:List Pt),()))=_ from hz,aa]
  rcases hc with ⟨c1,c2⟩|⟨c1,c2,c3⟩
  ·rw[c1,cG,ag,aa,c2];rfl
  ·rw[c1,jc,af,aa,c2,c3]
   cases b<;>rfl
 have e0:(([]:List Pt).length:Int)=0:=rfl
 unfold mc
 dsimp only
 rw[aJ (by rw[bN];omega),show bT ((),((true,(s,((0:Int),(false,(false,()))))),()))=_ from h1,aa]
 dsimp only
 rcases h2 with ⟨rfl,b,z,rfl,k1,k2⟩|⟨rfl,r',rfl,k3,k5,k4⟩
 ·rw[aV,w8]
  show _=(ah (js ((),(zQ _ _,()))) fun y3=>aj y3.1.1 (some (([]:List Pt),((10:Int),()))) (some (([]:List Pt),((0:Int),()))))
  rw[fin (_,b),parts [] b z (by rw[aV,k1];rfl) k2]
 ·obtain⟨o,p',b,z,z1,z2,z3⟩:=Vn r'.length r' [] p (Nat.le_refl _) (by omega) (by simp)
  rw[show Loop gw (((),((),(true,()))),(p,(([]:List Pt),(rd r' ((([]:List Pt).length+1:Nat):Int),()))))=_ from z1,aa]
  dsimp only
  rw[fin b o]
  exact parts o b.2 z (by rw[aV,k4];exact z2) z3
theorem Ac(s:List UInt8):nV (s,())=some (if(CV s).2=0∧jD (CV s).1=true then 0 else 10,()):=by
 obtain⟨r1,r2⟩:=TP s
 unfold nV
 dsimp only
 rw[Mi s,r1,aa]
 dsimp only
 rw[z8 _ r2,aa]
 dsimp only
 by_cases he:(CV s).2=0
 ·rw[aR he]
  by_cases ha:jD (CV s).1=true
  ·rw[ha,if_pos ⟨he,rfl⟩];rfl
  ·have ha2:jD (CV s).1=false:=by simpa using ha
   rw[ha2,if_neg (fun q:(CV s).2=0∧false=true=>Bool.noConfusion q.2)];rfl
 ·rw[aN he,if_neg (fun q:(CV s).2=0∧jD (CV s).1=true=>he q.1)];rfl
theorem Qj{l:List Nd}(hv:Valid l){ps:List Pt}(ha:¬jD ps=true):nE l ps=([],10):=by unfold nE;rw[if_pos hv,if_neg ha]
end Go.Ge
namespace Go.Ge
set_option linter.unusedSectionVars false
variable [Lp]
set_option linter.unusedVariables false
set_option linter.unusedSimpArgs false
def Qk(ls:List b7)(id:Tx):Option Nat:=ls.findIdx? fun x=>decide (x.1=id)
def FB(ls:List b7)(id:Tx):Int:=match Qk ls id with|some i=>(i:Int)|none=>-1
theorem XB{ls:List b7}{id:Tx}{i:Nat}{x:b7}(hx:ls[i]?=some x)(hp:x.1=id)(hj:∀(j:Nat) (y:b7),j<i→ls[j]?=some y→decide (y.1=id)=false):Qk ls id=some i:=by
 unfold Qk
 rw[List.findIdx?_eq_some_iff_getElem]
 have hlt:=aH hx
 refine⟨hlt,?_,fun j hji=>?_⟩
 ·rw[List.getElem?_eq_getElem hlt] at hx
  rw[Option.some.inj hx,decide_eq_true hp]
 ·have:=hj j ls[j] hji (List.getElem?_eq_getElem (by omega))
  rw[this];simp
theorem XC{ls:List b7}{id:Tx}(hn:∀(i:Nat) (x:b7),ls[i]?=some x→decide (x.1=id)=false):Qk ls id=none:=by
 unfold Qk
 rw[List.findIdx?_eq_none_iff]
 intro x hx
 obtain⟨i,hi⟩:=bQ.1 hx
 exact hn i x hi
theorem XD{ls:List b7}{id:Tx}{i:Nat}(h:Qk ls id=some i):∃x,ls[i]?=some x∧x.1=id:=by
 unfold Qk at h
 rw[List.findIdx?_eq_some_iff_getElem] at h
 obtain⟨h1,h2,_⟩:=h
 exact⟨ls[i],List.getElem?_eq_getElem h1,of_decide_eq_true h2⟩
theorem TQ{ls:List b7}{id:Tx}:(∃i,Qk ls id=some i)↔∃x∈ls,x.1=id:=by
 constructor
 ·rintro⟨i,h⟩
  obtain⟨x,hx,he⟩:=XD h
  exact⟨x,List.mem_of_getElem? hx,he⟩
 ·rintro⟨x,hx,he⟩
  cases h:Qk ls id with
  | some i=>exact⟨i,rfl⟩
  | none =>
    unfold Qk at h
    rw[List.findIdx?_eq_none_iff] at h
    have:=h x hx
    simp[he] at this
theorem XE{ls:List b7}{id:Tx}:FB ls id<0↔¬∃x∈ls,x.1=id:=by
 rw[←TQ]
 unfold FB
 cases h:Qk ls id with
 | none=>simp
 | some i=>simp only[Option.some.injEq,exists_eq',not_true_eq_false,iff_false];omega
theorem Mj{f:(Int×Int×Unit)×Unit→Option (((Int×Int×Unit)×Unit)⊕(Nat×(Int×Int×Unit)×Unit))}(ls:List b7)(id:Tx)(hl:ls.length≤1000000)
  (hf:∀c i:Int,f ((c,(i,())),())=aj (aY i (len ls)) (ah (idx ls i) fun y=>aj (cc y.1 id) (some (.inr (1,((i,(i,())),())))) (some (.inl ((c,(aI .i64 i 1,())),())))) (some (.inr (0,((c,(i,())),()))))) :
  ah (Loop f (((0:Int),((0:Int),())),())) (fun y1=>aj (fB y1.1 0) (some ((-1:Int),())) (some (y1.2.1.1,())))=some (FB ls id,()):=by
 rcases mM (f:=f) ls (fun i=>(((0:Int),(i,())),())) (fun _ x=>decide (x.1=id)) (fun i x=>(1,(((i:Int),((i:Int),())),()))) (0,(((0:Int),(len ls,())),())) (by omega) (fun i x hx hi ha=>by
  rw[hf,au hi,ag,az hx,aa,lX,ha]
  by_cases h:x.1=id<;>simp[cc,h]) (by rw[hf,aE,af];rfl) with ⟨i,x,hx,hp,hj,h⟩|⟨hn,h⟩
 ·rw[h,aa]
  unfold FB
  rw[XB hx (of_decide_eq_true hp) hj]
  rfl
 ·rw[h,aa]
  unfold FB
  rw[XC hn]
  rfl
theorem JI(ls:List b7)(id:Tx)(hl:ls.length≤1000000):xV (ls,(id,()))=some (FB ls id,()):=Mj ls id hl fun c i=>rfl
theorem JJ(s:bW)(id:Tx)(hl:s.2.2.1.length≤1000000):j8 (s,(id,()))=some (FB s.2.2.1 id,()):=Mj s.2.2.1 id hl fun c i=>rfl
def Yg(ls:List b7):Nat→Tx→List b7→List b7×Int
 | n,id,acc=>match Qk ls id with
   | none=>([],3)
   | some i=>match n,ls[i]? with
     | 0,_=>([],5)
     | n+1,some x=>if x.2.1=[] then(acc++[x],0) else Yg ls n x.2.1 (acc++[x])
     | _,none=>([],3)
def nF(ls:List b7)(id:Tx):List b7×Int:=Yg ls 16 id []
theorem SY(ls:List b7)(id0:Tx)(hl:ls.length≤1000000):∀(n:Nat) (id:Tx) (acc:List b7) (k:Nat),n+k=16→acc.length≤k →
  ∃q1 q2 q3,Loop (jA (ls,(id0,()))) ((id,(([]:List b7),((0:Int),((),((k:Int),()))))),(acc,()))=some (1,((q1,((Yg ls n id acc).1,((Yg ls n id acc).2,q2))),q3)):=by
 intro n
 induction n with
 | zero =>
   intro id acc k hk ha
   rw[aV]
   unfold jA
   dsimp only
   rw[cz (by omega),ag,JI ls id hl,aa]
   dsimp only
   unfold Yg FB
   cases h:Qk ls id with
   | none=>exact⟨_,_,_,rfl⟩
   | some i =>
     dsimp only
     rw[aJ (by omega),af,aR (by omega),ag]
     exact⟨_,_,_,rfl⟩
 | succ n ih =>
   intro id acc k hk ha
   rw[aV]
   unfold jA
   dsimp only
   rw[cz (by omega),ag,JI ls id hl,aa]
   dsimp only
   unfold Yg FB
   cases h:Qk ls id with
   | none=>exact⟨_,_,_,rfl⟩
   | some i =>
     obtain⟨x,hx,he⟩:=XD h
     dsimp only
     rw[aJ (by omega),af,aN (by omega),af,az hx,aa,show fits (plus (@len b7 acc) (@len b7 ([x]:List b7)))=true from cM (by show _+1≤_;omega),ag,aa,hx]
     dsimp only
     rw[nk]
     by_cases hp:x.2.1=[]
     ·rw[decide_eq_true hp,ag,if_pos hp]
      exact⟨_,_,_,rfl⟩
     ·rw[decide_eq_false hp,af,if_neg hp,aa,aZ (by omega)]
      have:=ih x.2.1 (acc++[x]) (k+1) (by omega) (by rw[List.length_append];show _+1≤_;omega)
      exact this
theorem Mk(ls:List b7)(id:Tx)(hl:ls.length≤1000000):nZ (ls,(id,()))=some ((nF ls id).1,((nF ls id).2,())):=by
 unfold nZ
 dsimp only
 obtain⟨q1,q2,q3,h⟩:=SY ls id hl 16 id [] 0 rfl (Nat.le_refl _)
 have h':Loop (jA (ls,(id,()))) ((id,(([]:List b7),((0:Int),((),((0:Int),()))))),(([]:List b7),()))=_:=h
 rw[h',aa]
 rfl
theorem Zl{ls:List b7}:∀{n:Nat} {id:Tx} {acc:List b7},(∀x∈acc,x∈ls)→(∀x∈(Yg ls n id acc).1,x∈ls)∧(Yg ls n id acc).1.length≤n+acc.length:=by
 intro n
 induction n with
 | zero =>
   intro id acc h
   unfold Yg
   cases Qk ls id<;>simp
 | succ n ih =>
   intro id acc h
   unfold Yg
   cases hl:Qk ls id with
   | none=>simp
   | some i =>
     dsimp only
     cases hx:ls[i]? with
     | none=>simp
     | some x =>
       dsimp only
       have h2:∀y∈acc++[x],y∈ls:=fun y hy=>by
        rcases List.mem_append.1 hy with hy|hy
        ·exact h y hy
        ·rw[List.mem_singleton] at hy;subst hy;exact List.mem_of_getElem? hx
       split
       ·exact⟨h2,by rw[List.length_append];show _+1≤_;omega⟩
       ·obtain⟨a,b⟩:=ih (id:=x.2.1) h2
        refine⟨a,?_⟩
        rw[List.length_append] at b
        have:([x]:List b7).length=1:=rfl
        omega
theorem Vo{ls:List b7}{id:Tx}:(∀x∈(nF ls id).1,x∈ls)∧(nF ls id).1.length≤16:=by
 obtain⟨a,b⟩:=Zl (ls:=ls) (n:=16) (id:=id) (acc:=[]) (fun x hx=>by cases hx)
 exact⟨a,by unfold nF;simpa using b⟩
theorem SZ{l:List Nd}(hv:Valid l)(s:List UInt8):rH (l,(s,()))=some ((uE l s).1,((uE l s).2,())):=by
 obtain⟨r1,r2⟩:=TP s
 obtain⟨v,v1,v2⟩:=qL l (sw hv)
 unfold rH
 dsimp only
 rw[v1,aa,v2.2 hv]
 dsimp only
 rw[aK,af,Ac s,aa,Mi s,r1]
 dsimp only
 unfold uE
 by_cases he:(CV s).2=0
 ·rw[if_pos he]
  by_cases ha:jD (CV s).1=true
  ·rw[if_pos (⟨he,ha⟩:(CV s).2=0∧jD (CV s).1=true),show nt (bC 0 0)=false from rfl,af,aa,SU l _ (sw hv) r2,aa]
  ·rw[if_neg (fun q:(CV s).2=0∧jD (CV s).1=true=>ha q.2),Qj hv ha];rfl
 ·rw[if_neg he,if_neg (fun q:(CV s).2=0∧jD (CV s).1=true=>he q.1)];rfl
theorem Vp(ds:List Tx)(hl:ds.length≤1000000):vm (ds,())=some ((NR ds []).1,((NR ds []).2,())):=by
 unfold vm
 have key:∀(r:List Tx) (t:List Nd) (k:Nat),ds=ds.take k++r→k+r.length=ds.length→Valid t→∃q,(Loop (fI (ds,())) ((([]:List Nd),((0:Int),(t,((k:Int),())))),())=some (1,((([]:List Nd),((NR r t).2,q)),()))∧(NR r t).1=[]) ∨
   ∃q1 q2 q3,Loop (fI (ds,())) ((([]:List Nd),((0:Int),(t,((k:Int),())))),())=some (0,((q1,(q2,((NR r t).1,q3))),()))∧(NR r t).2=0:=by
  intro r
  induction r with
  | nil =>
    intro t k hk hlen hv
    rw[List.length_nil,Nat.add_zero] at hlen
    refine⟨((t,((k:Int),())):List Nd×Int×Unit),.inr ⟨[],0,((k:Int),()),?_,rfl⟩⟩
    rw[aV]
    unfold fI
    dsimp only
    rw[hlen,aE,af]
    rfl
  | cons d r ih =>
    intro t k hk hlen hv
    rw[List.length_cons] at hlen
    have hx:ds[k]?=some d:=by
     rw[hk,List.getElem?_append_right (by rw[List.length_take];omega),List.length_take]
     simp[Nat.min_eq_left (show k≤ds.length by omega)]
    have step:fI (ds,()) ((([]:List Nd),((0:Int),(t,((k:Int),())))),())=some (if(uE t d).2=0 then .inl ((([]:List Nd),((0:Int),((uE t d).1,(((k+1:Nat):Int),())))),()) else .inr (1,((([]:List Nd),((uE t d).2,(t,((k:Int),())))),()))):=by
     unfold fI
     dsimp only
     rw[au (by omega),ag,az hx,aa,SZ hv d,aa,aZ (by omega)]
     dsimp only
     by_cases h0:(uE t d).2=0
     ·rw[aR h0,aK,af,if_pos h0]
     ·rw[aN h0,aF,ag,if_neg h0]
    rw[aV,step]
    unfold NR
    by_cases h0:(uE t d).2=0
    ·rw[if_pos h0,if_pos h0]
     have Lv:Valid (uE t d).1:=by
      rcases Vl hv d with ⟨_,h,_⟩|⟨h,_⟩
      ·exact h
      ·exact absurd h0 h
     exact ih (uE t d).1 (k+1) (by rw[List.take_add_one,hx];simpa using hk) (by omega) Lv
    ·rw[if_neg h0,if_neg h0]
     exact⟨(t,((k:Int),())),.inl ⟨rfl,rfl⟩⟩
 have hv0:Valid []:=NO aaQ.1
 obtain⟨q,⟨h,h1⟩|⟨q1,q2,q3,h,h1⟩⟩:=key ds [] 0 (by simp) (by simp) hv0
 ·have h':Loop (fI (ds,())) ((([]:List Nd),((0:Int),(([]:List Nd),((0:Int),())))),())=_:=h
  rw[h',aa,h1]
  rfl
 ·have h':Loop (fI (ds,())) ((([]:List Nd),((0:Int),(([]:List Nd),((0:Int),())))),())=_:=h
  rw[h',aa,h1]
  rfl
end Go.Ge
namespace Go.Ge
set_option linter.unusedSectionVars false
variable [Lp]
set_option linter.unusedVariables false
set_option linter.unusedSimpArgs false
def S0(ls:List b7)(ds:List Tx)(id:Tx):Tx:=match Qk ls id with|some i=>(ds[i]?).getD []|none=>[]
noncomputable def JK(ls:List b7)(ds:List Tx)(id:Tx):List Nd×Int :=
 if(nF ls id).2=0 then NR ((nF ls id).1.reverse.map fun x=>S0 ls ds x.1) [] else([],(nF ls id).2)
theorem S1(s:bW)(i:Nat):tF (s,((i:Int),()))=some ((s.2.2.2.1[i]?).getD [],()):=by
 unfold tF
 dsimp only
 by_cases h:i<s.2.2.2.1.length
 ·have hx:s.2.2.2.1[i]?=some s.2.2.2.1[i]:=List.getElem?_eq_getElem h
  rw[au h,ag,az hx,aa,hx]
  rfl
 ·have hx:s.2.2.2.1[i]?=none:=List.getElem?_eq_none (by omega)
  rw[aJ (by unfold len;omega),af,hx]
  rfl
theorem S2(s:bW)(id:Tx)(hl:s.2.2.1.length≤1000000):tG (s,(id,()))=some ((JK s.2.2.1 s.2.2.2.1 id).1,((JK s.2.2.1 s.2.2.2.1 id).2,())):=by
 obtain⟨hm,h16⟩:=Vo (ls:=s.2.2.1) (id:=id)
 unfold tG JK
 dsimp only
 rw[Mk _ id hl,aa]
 dsimp only
 by_cases h0:(nF s.2.2.1 id).2=0
 ·rw[aR h0,aK,af,if_pos h0]
  generalize (nF s.2.2.1 id).1=c at hm h16
  generalize hq:(c,((nF s.2.2.1 id).2,()))=q
  have hq1:q.1=c:=by rw[←hq]
  have key:∀(n:Nat) (acc:List Tx),n≤c.length→acc.length+n≤1000→∃z,Loop (kM (s,(id,())) q) (((),((n:Int)-1,())),(acc,()))=some (z,(acc++(c.take n).reverse.map fun x=>S0 s.2.2.1 s.2.2.2.1 x.1,())):=by
   intro n
   induction n with
   | zero =>
     intro acc _ _
     refine⟨((),((0:Nat):Int)-1,()),?_⟩
     rw[aV]
     unfold kM
     dsimp only
     rw[eU (by omega),af]
     simp[ep]
   | succ n ih =>
     intro acc hn ha
     obtain⟨x,hx⟩:∃x,c[n]?=some x:=⟨_,List.getElem?_eq_getElem (show n<c.length by omega)⟩
     obtain⟨i,hi⟩:=TQ.2 ⟨x,hm x (List.mem_of_getElem? hx),rfl⟩
     have hd:S0 s.2.2.1 s.2.2.2.1 x.1=(s.2.2.2.1[i]?).getD []:=by unfold S0;rw[hi]
     obtain⟨z,hz⟩:=ih (acc++[S0 s.2.2.1 s.2.2.2.1 x.1]) (by omega) (by rw[List.length_append];show _+1+n≤_;omega)
     refine⟨z,?_⟩
     have step:kM (s,(id,())) q (((),((n:Int),())),(acc,()))=some (.inl (((),((n:Int)-1,())),(acc++[S0 s.2.2.1 s.2.2.2.1 x.1],()))):=by
      unfold kM
      dsimp only
      rw[cz (by omega),ag,hq1,az hx,aa,JJ s x.1 hl,aa]
      dsimp only
      rw[show FB s.2.2.1 x.1=(i:Int) by unfold FB;rw[hi],S1 s i,aa,←hd]
      dsimp only
      rw[show fits (plus (@len Tx acc) (@len Tx ([S0 s.2.2.1 s.2.2.2.1 x.1]:List Tx)))=true from cM (by show _+1≤_;omega),ag,fZ (by omega) (by omega)]
      rfl
     rw[show((n+1:Nat):Int)-1=(n:Int) by omega,aV,step]
     refine Eq.trans hz ?_
     rw[List.take_add_one,hx]
     simp
  obtain⟨z,hz⟩:=key c.length [] (Nat.le_refl _) (by simp;omega)
  have hlen:dO .i64 (len c) 1=(c.length:Int)-1:=fZ (by unfold len;omega) (by unfold len;omega)
  rw[hlen,hz,aa]
  dsimp only
  rw[List.take_length,List.nil_append,Vp _ (by rw[List.length_map,List.length_reverse];omega),aa]
 ·rw[aN h0,aF,ag,if_neg h0]
def NS(s:Tx):Prop:=(CV s).2=0∧jD (CV s).1=true
structure XF (ls:List b7) (ds:List Tx):Prop where
 same:ds.length=ls.length
 chain:∀x∈ls,(nF ls x.1).2=0
 each:∀(i:Nat) (x:b7) (d:Tx),ls[i]?=some x→ds[i]?=some d→x.2.2.2.2.2.2.1=true∧x.2.2.2.2.2.1=0∧x.2.2.2.2.1=(d.length:Int)∧x.2.2.2.1=PG d∧NS d∧(JK ls ds x.1).2=0
open Classical in
theorem NT(s:bW)(hl:s.2.2.1.length≤100)(hd:∀d∈s.2.2.2.1,d.length≤8192):∃b,qk (s,())=some (b,())∧(b=true↔XF s.2.2.1 s.2.2.2.1):=by
 have aeH:rJ (s.2.2.1,())=some (if(∀x∈s.2.2.1,(nF s.2.2.1 x.1).2=0) then 0 else 2,()):=by
  unfold rJ
  rcases mM (f:=nj (s.2.2.1,())) s.2.2.1 (fun i=>(((0:Int),(i,())),())) (fun _ x=>decide ((nF s.2.2.1 x.1).2≠0)) (fun i x=>(1,(((2:Int),((i:Int),())),()))) (0,(((0:Int),(len s.2.2.1,())),())) (by omega) (fun i x hx hi ha=>by
   unfold nj
   dsimp only
   rw[au hi,ag,az hx,aa,Mk _ x.1 (by omega),aa,ha]
   dsimp only
   by_cases h:(nF s.2.2.1 x.1).2=0
   ·rw[aR h];simp[h,nt,aj]
   ·rw[aN h];simp[h,nt,aj]) (by unfold nj;dsimp only;rw[aE,af];rfl) with ⟨i,x,hx,hp,_,h⟩|⟨hn,h⟩
  ·rw[h,aa,if_neg (fun q=>by simp[q x (List.mem_of_getElem? hx)] at hp)];rfl
  ·rw[h,aa,if_pos (fun x hx=>by
   obtain⟨i,hi⟩:=bQ.1 hx
   have:=hn i x hi
   simpa using this)];rfl
 unfold qk
 dsimp only
 rw[aeH,aa]
 by_cases hsame:s.2.2.2.1.length=s.2.2.1.length
 ·rw[aR (show @len Tx s.2.2.2.1=@len b7 s.2.2.1 by unfold len;omega),aK,aF,ag,aa]
  by_cases hch:∀x∈s.2.2.1,(nF s.2.2.1 x.1).2=0
  ·rw[if_pos hch,show nt (bC (0:Int) 0)=false from rfl,af]
   obtain⟨bad,uP⟩:∃bad:Nat→b7→Prop,∀i x,bad i x↔¬∃d,s.2.2.2.1[i]?=some d∧x.2.2.2.2.2.2.1=true∧x.2.2.2.2.2.1=0∧x.2.2.2.2.1=(d.length:Int)∧x.2.2.2.1=PG d∧NS d∧(JK s.2.2.1 s.2.2.2.1 x.1).2=0:=⟨_,fun _ _=>Iff.rfl⟩
   rcases mM (f:=lD (s,())) s.2.2.1 (fun i=>((false,(i,())),())) (fun i x=>decide (bad i x)) (fun i x=>(1,((false,((i:Int),())),()))) (0,((false,(len s.2.2.1,())),())) (by omega) (fun i x hx hi ha=>by
    obtain⟨d,QS⟩:∃d,s.2.2.2.1[i]?=some d:=⟨_,List.getElem?_eq_getElem (show i<s.2.2.2.1.length by omega)⟩
    have hd8:=hd d (List.mem_of_getElem? QS)
    unfold lD
    dsimp only
    rw[au hi,ag,au (by omega),ag,az hx,aa,az QS,aa,aa,LZ d (by omega),aa,aa,Ac d,aa,S2 s x.1 (by omega),aa,ha]
    dsimp only
    have hb:bad i x↔¬(x.2.2.2.2.2.2.1=true∧x.2.2.2.2.2.1=0∧x.2.2.2.2.1=(d.length:Int)∧x.2.2.2.1=PG d∧NS d∧(JK s.2.2.1 s.2.2.2.1 x.1).2=0):=by
     rw[uP]
     constructor
     ·intro h q;exact h ⟨d,QS,q⟩
     ·rintro h ⟨d',e,q⟩
      rw[QS] at e
      obtain rfl:=Option.some.inj e
      exact h q
    by_cases h1:x.2.2.2.2.2.2.1=true
    rotate_left
    ·rw[if_pos (decide_eq_true (hb.2 fun q=>h1 q.1)),show x.2.2.2.2.2.2.1=false by simpa using h1];rfl
    rw[h1,aK,af]
    by_cases h2:x.2.2.2.2.2.1=0
    ·rw[aR h2,aK,af]
     by_cases h3:x.2.2.2.2.1=(d.length:Int)
     ·rw[show bC x.2.2.2.2.1 (@len UInt8 d)=true from aR h3,aK,af,nk]
      by_cases h4:x.2.2.2.1=PG d
      ·rw[decide_eq_true h4,aK,af]
       by_cases h5:NS d
       ·rw[if_pos (show(CV d).2=0∧jD (CV d).1=true from h5),show nt (bC (0:Int) 0)=false from rfl,af]
        by_cases h6:(JK s.2.2.1 s.2.2.2.1 x.1).2=0
        ·rw[aR h6,aK,af,if_neg (by rw[decide_eq_true_iff];exact fun q=>hb.1 q ⟨h1,h2,h3,h4,h5,h6⟩)]
        ·rw[aN h6,aF,ag,if_pos (decide_eq_true (hb.2 fun q=>h6 q.2.2.2.2.2))]
       ·rw[if_neg (show ¬((CV d).2=0∧jD (CV d).1=true) from h5),show nt (bC (10:Int) 0)=true from rfl,ag,if_pos (decide_eq_true (hb.2 fun q=>h5 q.2.2.2.2.1))]
      ·rw[decide_eq_false h4,aF,ag,if_pos (decide_eq_true (hb.2 fun q=>h4 q.2.2.2.1))]
     ·rw[show bC x.2.2.2.2.1 (@len UInt8 d)=false from aN h3,aF,ag,if_pos (decide_eq_true (hb.2 fun q=>h3 q.2.2.1))]
    ·rw[aN h2,aF,ag,if_pos (decide_eq_true (hb.2 fun q=>h2 q.2.1))]) (by
    unfold lD;dsimp only;rw[aE,af,af];rfl) with ⟨i,x,hx,hp,_,h⟩|⟨hn,h⟩
   ·rw[h,aa]
    refine⟨false,rfl,fun q=>(by cases q),fun q=>?_⟩
    obtain⟨d,QS⟩:∃d,s.2.2.2.1[i]?=some d:=⟨_,List.getElem?_eq_getElem (show i<s.2.2.2.1.length by have:=aH hx;omega)⟩
    exact absurd ⟨d,QS,q.each i x d hx QS⟩ ((uP i x).1 (of_decide_eq_true hp))
   ·rw[h,aa]
    refine⟨true,rfl,fun _=>⟨hsame,hch,fun i x d hx QS=>?_⟩,fun _=>rfl⟩
    have:=hn i x hx
    simp only[decide_eq_false_iff_not,uP,Classical.not_not] at this
    obtain⟨d',e,q⟩:=this
    rw[QS] at e
    obtain rfl:=Option.some.inj e
    exact q
  ·rw[if_neg hch,show nt (bC (2:Int) 0)=true from rfl,ag]
   exact⟨false,rfl,fun q=>(by cases q),fun q=>absurd q.chain hch⟩
 ·rw[aN (show @len Tx s.2.2.2.1≠@len b7 s.2.2.1 by unfold len;omega),aF,aK,af,aa,ag]
  exact⟨false,rfl,fun q=>(by cases q),fun q=>absurd q.same hsame⟩
end Go.Ge
namespace Go.Ge
set_option linter.unusedSectionVars false
variable [Lp]
set_option linter.unusedVariables false
set_option linter.unusedSimpArgs false
structure NU (s:bW):Prop where
 ll:s.2.2.1.length≤40
 il:s.2.1.length≤40
 bl:s.1.length≤40
 xl:∀x∈s.2.2.1,BdL x
 xi:∀x∈s.2.1,BdI x
 xb:∀x∈s.1,BdB x
 dl:∀d∈s.2.2.2.1,d.length≤8192
 ml:s.2.2.2.2.1.length≤1000000
theorem NU.acG{s:bW}(h:NU s):BdX (0,(s.2.2.1,([],([],())))) :=
 ⟨⟨h.ll,fun x hx=>(h.xl x hx).2.2.1,by simp,fun x hx=>(by cases hx),by simp,fun x hx=>(by cases hx)⟩,h.xl,fun x hx=>(by cases hx),fun x hx=>(by cases hx)⟩
theorem NU.acH{s:bW}(h:NU s):BdX (0,([],(s.2.1,([],())))) :=
 ⟨⟨by simp,fun x hx=>(by cases hx),h.il,fun x hx=>(h.xi x hx).2.1,by simp,fun x hx=>(by cases hx)⟩,fun x hx=>(by cases hx),h.xi,fun x hx=>(by cases hx)⟩
theorem NU.acI{s:bW}(h:NU s):BdX (0,([],([],(s.1,())))) :=
 ⟨⟨by simp,fun x hx=>(by cases hx),by simp,fun x hx=>(by cases hx),h.bl,fun x hx=>(h.xb x hx).2.1⟩,fun x hx=>(by cases hx),fun x hx=>(by cases hx),h.xb⟩
def JL(s:bW)(x:cH):Prop:=x.2.2.1=[]∨∃y∈s.2.2.1,y.1=x.2.2.1
def w9(s:bW)(x:Bb):Prop:=(x.2.2.1=[]∨∃y∈s.2.1,y.1=x.2.2.1)∧∃y∈s.2.2.1,y.1=x.2.2.2.1
def NV(s:bW)(x:zO):Prop:=(∃y∈s.2.2.1,y.1=x.1)∧1≤x.2.1∧x.2.1≤1000
structure QV (s:bW):Prop where
 b:xX 1 (0,([],([],(s.1,()))))
 i:xX 2 (0,([],(s.2.1,([],()))))
 l:xX 3 (0,(s.2.2.1,([],([],()))))
 lays:XF s.2.2.1 s.2.2.2.1
 acJ:s.2.2.2.2.1.length≤32
 tops:∀x∈s.2.1,JL s x
 refs:∀x∈s.1,w9 s x
 mts:∀x∈s.2.2.2.2.1,NV s x
 ZR:(s.2.2.2.2.1.map (·.1)).Pairwise fun x y=>iD x y=true
theorem aaW{p:Prop}[Decidable p](h:p):¬decide (¬p)=true:=by simpa using h
theorem aaX{p:Prop}[Decidable p](h:¬p):decide (¬p)=true:=decide_eq_true h
theorem XG(s:bW)(x:Bb)(hi:s.2.1.length≤1000000)(c:Bool):∃q,Loop (mC (s,()) x) ((c,((0:Int),())),())=some ((c||s.2.1.any (fun y=>decide (y.1=x.2.2.1)),q),()):=by
 obtain⟨t,_,h,ht⟩:=Fc (f:=mC (s,()) x) s.2.1 (fun(c:Bool) i=>((c,(i,())),())) (fun c _ y=>c||decide (y.1=x.2.2.1)) (fun c=>((c,((s.2.1.length:Int),())),())) (fun _ _=>True) (by omega) (fun c i y hy hi ha _=>by
  refine⟨?_,trivial⟩
  unfold mC
  dsimp only
  rw[au hi,ag,ha]
  cases c with
  | true=>rfl
  | false =>
    rw[af,az hy,aa,nk]
    by_cases q:y.1=x.2.2.1<;>simp[q,ep]) (fun c _=>by
  unfold mC
  dsimp only
  rw[aE,af]
  rfl) c trivial
 refine⟨((s.2.1.length:Int),()),h.trans ?_⟩
 have:t=(c||s.2.1.any (fun y=>decide (y.1=x.2.2.1))):=by
  rw[ht]
  have key:∀(l:List cH) (k:Nat) (c:Bool),(l.zipIdx k).foldl (fun a p=>a||decide (p.1.1=x.2.2.1)) c=(c||l.any (fun y=>decide (y.1=x.2.2.1))):=by
   intro l
   induction l with
   | nil=>intro k c;simp
   | cons y r ih=>intro k c;rw[List.zipIdx_cons,List.foldl_cons,ih];simp[Bool.or_assoc]
  exact key _ _ _
 rw[this]
open Classical in
theorem Ml(s:bW)(h:NU s):∃b,mD (s,())=some (b,())∧(b=true↔QV s):=by
 have hll:=h.ll
 obtain⟨e1,c1,f1⟩:=zP 1 (0,([],([],(s.1,())))) (.inl rfl) rfl h.acI
 obtain⟨e2,c2,f2⟩:=zP 2 (0,([],(s.2.1,([],())))) (.inr (.inl rfl)) rfl h.acH
 obtain⟨e3,c3,f3⟩:=zP 3 (0,(s.2.2.1,([],([],())))) (.inr (.inr rfl)) rfl h.acG
 obtain⟨b4,c4,f4⟩:=NT s (by omega) h.dl
 have e32:aY (32:Int) (@len zO s.2.2.2.2.1)=decide (32<s.2.2.2.2.1.length):=by unfold aY len;apply decide_eq_decide.2;omega
 unfold mD
 dsimp only
 rw[c1,aa,qK (by rw[c2,aa]),qK (by rw[c3,aa]),qK (by rw[c4,aa]),e32]
 by_cases g1:e1=0
 rotate_left
 ·rw[aN g1];exact⟨false,rfl,fun q=>(by cases q),fun q=>absurd (f1.2 q.b) g1⟩
 by_cases g2:e2=0
 rotate_left
 ·rw[aR g1,aN g2];exact⟨false,rfl,fun q=>(by cases q),fun q=>absurd (f2.2 q.i) g2⟩
 by_cases g3:e3=0
 rotate_left
 ·rw[aR g1,aR g2,aN g3];exact⟨false,rfl,fun q=>(by cases q),fun q=>absurd (f3.2 q.l) g3⟩
 by_cases g4:b4=true
 rotate_left
 ·have:b4=false:=by simpa using g4
  rw[aR g1,aR g2,aR g3,this];exact⟨false,rfl,fun q=>(by cases q),fun q=>absurd (f4.2 q.lays) g4⟩
 by_cases g5:32<s.2.2.2.2.1.length
 ·rw[aR g1,aR g2,aR g3,g4,decide_eq_true g5];exact⟨false,rfl,fun q=>(by cases q),fun q=>by have:=q.acJ;omega⟩
 rw[aR g1,aR g2,aR g3,g4,decide_eq_false g5]
 rw[show aj (nt (!(nt (!(nt (!(nt (nt true))||nt true))||nt true))||nt true)) false true=false from rfl,af]
 have hfind:∀id,j8 (s,(id,()))=some (FB s.2.2.1 id,()):=fun id=>JJ s id (by omega)
 have hneg:∀id,aY (FB s.2.2.1 id) 0=decide (¬∃y∈s.2.2.1,y.1=id):=fun id=>by unfold aY;exact decide_eq_decide.2 XE
 rcases mM (f:=ql (s,())) s.2.1 (fun i=>((false,(i,())),())) (fun _ x=>decide (¬JL s x)) (fun i x=>(1,((false,((i:Int),())),()))) (0,((false,(len s.2.1,())),())) (by have:=h.il;omega) (fun i x hx hi ha=>by
  unfold ql
  dsimp only
  rw[au hi,ag,az hx,aa,nk,ha]
  by_cases q:x.2.2.1=[]
  ·rw[decide_eq_true q,aK,af,if_neg (aaW (show JL s x from .inl q))]
  ·rw[decide_eq_false q,aF,ag,aa,hfind,aa,hneg]
   by_cases z:∃y∈s.2.2.1,y.1=x.2.2.1
   ·rw[decide_eq_false (fun w=>w z),af,if_neg (aaW (show JL s x from .inr z))]
   ·rw[decide_eq_true z,ag,if_pos (aaX (show ¬JL s x by rintro(w|w);exact q w;exact z w))]) (by
  unfold ql;dsimp only;rw[aE,af];rfl) with ⟨i,x,hx,hp,_,hr⟩|⟨hn,hr⟩
 ·rw[hr,aa];exact⟨false,rfl,fun q=>(by cases q),fun q=>absurd (q.tops x (List.mem_of_getElem? hx)) (of_decide_eq_true hp)⟩
 have t1:∀x∈s.2.1,JL s x:=fun x hx=>by
  obtain⟨i,hi⟩:=bQ.1 hx
  have:=hn i x hi
  simpa using this
 rw[hr,aa]
 dsimp only
 rw[cG,ag]
 rcases mM (f:=qm (s,())) s.1 (fun i=>((false,(i,())),())) (fun _ x=>decide (¬w9 s x)) (fun i x=>(1,((false,((i:Int),())),()))) (0,((false,(len s.1,())),())) (by have:=h.bl;omega) (fun i x hx hi ha=>by
  obtain⟨q,hq⟩:=XG s x (by have:=h.il;omega) (cc x.2.2.1 [])
  unfold qm
  dsimp only
  rw[au hi,ag,az hx,aa,hq,aa,ha]
  dsimp only
  rw[qK (by rw[hfind,aa,hneg])]
  have X7:(cc x.2.2.1 []||s.2.1.any (fun y=>decide (y.1=x.2.2.1)))=decide (x.2.2.1=[]∨∃y∈s.2.1,y.1=x.2.2.1):=by
   rw[nk,Bool.decide_or]
   congr 1
   rw[Bool.eq_iff_iff,List.any_eq_true,decide_eq_true_iff]
   simp
  rw[X7]
  by_cases z1:x.2.2.1=[]∨∃y∈s.2.1,y.1=x.2.2.1
  ·by_cases z2:∃y∈s.2.2.1,y.1=x.2.2.2.1
   ·rw[decide_eq_true z1,decide_eq_false (fun w=>w z2),if_neg (aaW (show w9 s x from⟨z1,z2⟩))];rfl
   ·rw[decide_eq_true z1,decide_eq_true z2,if_pos (aaX (show ¬w9 s x from fun w=>z2 w.2))];rfl
  ·rw[decide_eq_false z1,if_pos (aaX (show ¬w9 s x from fun w=>z1 w.1))];rfl) (by
  unfold qm;dsimp only;rw[aE,af];rfl) with ⟨i,x,hx,hp,_,hr⟩|⟨hn,hr⟩
 ·rw[hr,aa];exact⟨false,rfl,fun q=>(by cases q),fun q=>absurd (q.refs x (List.mem_of_getElem? hx)) (of_decide_eq_true hp)⟩
 have t2:∀x∈s.1,w9 s x:=fun x hx=>by
  obtain⟨i,hi⟩:=bQ.1 hx
  have:=hn i x hi
  simpa using this
 rw[hr,aa]
 dsimp only
 rw[cG,ag]
 obtain⟨bad,uP⟩:∃bad:Nat→zO→Prop,∀i x,bad i x↔¬(NV s x∧∀(k:Nat) (y:zO),k+1=i→s.2.2.2.2.1[k]?=some y→iD y.1 x.1=true):=⟨_,fun _ _=>Iff.rfl⟩
 rcases mM (f:=qn (s,())) s.2.2.2.2.1 (fun i=>((false,(i,())),())) (fun i x=>decide (bad i x)) (fun i x=>(1,((false,((i:Int),())),()))) (0,((false,(len s.2.2.2.2.1,())),())) (by have:=h.ml;omega) (fun i x hx hi ha=>by
  unfold qn
  dsimp only
  rw[au hi,ag,az hx,aa,hfind,aa,hneg,ha]
  by_cases z1:∃y∈s.2.2.1,y.1=x.1
  rotate_left
  ·rw[decide_eq_true z1,ag,if_pos (decide_eq_true ((uP i x).2 fun w=>z1 w.1.1))]
  rw[decide_eq_false (fun w=>w z1),af]
  by_cases z2:1≤x.2.1
  rotate_left
  ·rw[aT (by omega),ag,if_pos (decide_eq_true ((uP i x).2 fun w=>z2 w.1.2.1))]
  rw[aJ (by omega),af]
  by_cases z3:x.2.1≤1000
  rotate_left
  ·rw[aT (by omega),ag,if_pos (decide_eq_true ((uP i x).2 fun w=>z3 w.1.2.2))]
  rw[aJ (by omega),af]
  cases i with
  | zero =>
    rw[show aY (0:Int) ((0:Nat):Int)=false from rfl,af,if_neg (by rw[decide_eq_true_iff,uP];exact fun w=>w ⟨⟨z1,z2,z3⟩,fun k y hk=>by omega⟩)]
  | succ k =>
    obtain⟨y,hy⟩:∃y,s.2.2.2.2.1[k]?=some y:=⟨_,List.getElem?_eq_getElem (show k<s.2.2.2.2.1.length by omega)⟩
    rw[aT (by omega),ag,fZ (by omega) (by omega),show((k+1:Nat):Int)-1=(k:Int) by omega,az hy,aa]
    by_cases z4:iD y.1 x.1=true
    ·rw[z4,aK,af,if_neg (by
     rw[decide_eq_true_iff,uP]
     refine fun w=>w ⟨⟨z1,z2,z3⟩,fun k' y' hk hy'=>?_⟩
     obtain rfl:k'=k:=by omega
     rw[hy] at hy'
     obtain rfl:=Option.some.inj hy'
     exact z4)]
    ·rw[show iD y.1 x.1=false by simpa using z4,aF,ag,if_pos (decide_eq_true ((uP _ x).2 fun w=>z4 (w.2 k y rfl hy)))]) (by
  unfold qn;dsimp only;rw[aE,af];rfl) with ⟨i,x,hx,hp,_,hr⟩|⟨hn,hr⟩
 ·rw[hr,aa]
  refine⟨false,rfl,fun q=>(by cases q),fun q=>absurd ⟨q.mts x (List.mem_of_getElem? hx),fun k y hk hy=>?_⟩ ((uP i x).1 (of_decide_eq_true hp))⟩
  subst hk
  exact Jr.1 q.ZR k y.1 x.1 (by rw[List.getElem?_map,hy];rfl) (by rw[List.getElem?_map,hx];rfl)
 rw[hr,aa]
 have ZS:∀(i:Nat) (x:zO),s.2.2.2.2.1[i]?=some x→NV s x∧∀(k:Nat) (y:zO),k+1=i→s.2.2.2.2.1[k]?=some y→iD y.1 x.1=true:=fun i x hx=>by
  have:=hn i x hx
  simp only[decide_eq_false_iff_not,uP,Classical.not_not] at this
  exact this
 refine⟨true,rfl,fun _=>⟨f1.1 g1,f2.1 g2,f3.1 g3,f4.1 g4,by omega,t1,t2,fun x hx=>?_,Jr.2 fun i a b ha hb=>?_⟩,fun _=>rfl⟩
 ·obtain⟨i,hi⟩:=bQ.1 hx
  exact(ZS i x hi).1
 ·rw[List.getElem?_map] at ha hb
  obtain⟨a',ha',rfl⟩:=Option.map_eq_some_iff.1 ha
  obtain⟨b',hb',rfl⟩:=Option.map_eq_some_iff.1 hb
  exact(ZS (i+1) b' hb').2 i a' rfl ha'
end Go.Ge
namespace Go.Ge
set_option linter.unusedSectionVars false
variable [Lp]
set_option linter.unusedVariables false
set_option linter.unusedSimpArgs false
theorem JM{α:Type}{p:α→Bool}:∀{l:List α} {x:α},x∈l.takeWhile p→p x=true:=by
 intro l
 induction l with
 | nil=>intro x h;cases h
 | cons a r ih =>
   intro x h
   rw[List.takeWhile_cons] at h
   split at h
   ·rename_i hp
    rcases List.mem_cons.1 h with rfl|h
    ·exact hp
    ·exact ih h
   ·cases h
section
variable {α:Type} (key:α→Tx)
def FC(l:List α)(x:α):List α:=l.takeWhile (fun y=>iD (key y) (key x))++[x]++l.dropWhile (fun y=>iD (key y) (key x))
def nG(l:List α)(p:Tx):Nat:=(l.takeWhile fun y=>iD (key y) p).length
def Ql(l:List α):Prop:=(l.map key).Pairwise fun x y=>iD x y=true
theorem Mm(l:List α)(p:Tx):nG key l p≤l.length:=by
 unfold nG
 have:=congrArg List.length (List.takeWhile_append_dropWhile (p:=fun y:α=>iD (key y) p) (l:=l))
 rw[List.length_append] at this;omega
theorem JN(l:List α)(x:α):l.take (nG key l (key x))=l.takeWhile (fun y=>iD (key y) (key x))∧l.drop (nG key l (key x))=l.dropWhile (fun y=>iD (key y) (key x)):=by
 have e:=List.takeWhile_append_dropWhile (p:=fun y:α=>iD (key y) (key x)) (l:=l)
 refine⟨?_,?_⟩
 ·unfold nG
  conv=>lhs;rw[←e]
  rw[List.take_left']
  rw[e]
 ·unfold nG
  conv=>lhs;rw[←e]
  rw[List.drop_left']
  rw[e]
theorem S3(l:List α)(x:α)(hl:l.length≤1000000):Nh l ((nG key l (key x):Nat):Int) [x]=some (FC key l x):=by
 have hk:=Mm key l (key x)
 unfold Nh FC
 rw[show inside 0 ((nG key l (key x):Nat):Int) (len l)=true from bB (by decide) (by omega) (by unfold len;omega),cM (by simp only[List.length_cons,List.length_nil];omega)]
 rw[Int.toNat_natCast,(JN key l x).1,(JN key l x).2]
 rfl
theorem S4{S R:Type}{f:S→Option (S⊕R)}(l:List α)(p:Tx)(hl:l.length≤1000000)(mk:Int→S)(hit:Nat→R)(fin:R)
  (hs:∀(i:Nat) (y:α),l[i]?=some y→f (mk (i:Int))=some (if iD (key y) p=true then .inl (mk ((i+1:Nat):Int)) else .inr (hit i))) (he:f (mk (l.length:Int))=some (.inr fin)) :
  Loop f (mk 0)=some (if nG key l p<l.length then hit (nG key l p) else fin):=by
 have hpl:∀k:Nat,k≤l.length→(∀(j:Nat) (y:α),j<k→l[j]?=some y→iD (key y) p=true)→(∀y,l[k]?=some y→iD (key y) p=false)→nG key l p=k:=by
  intro k hk h1 h2
  have e:l.takeWhile (fun y=>iD (key y) p)=l.take k:=by
   clear hs he
   revert k
   induction l with
   | nil=>intro k hk _ _;simp
   | cons a r ih =>
     intro k hk h1 h2
     cases k with
     | zero=>rw[List.takeWhile_cons,h2 a rfl];rfl
     | succ k =>
       rw[List.takeWhile_cons,h1 0 a (by omega) rfl,if_pos rfl,List.take_succ_cons,ih (by simp at hl;omega) k (by simp at hk;omega) (fun j y hj hy=>h1 (j+1) y (by omega) hy) (fun y hy=>h2 y hy)]
  unfold nG
  rw[e,List.length_take]
  omega
 rcases mM (f:=f) l mk (fun _ y=>!iD (key y) p) (fun i _=>hit i) fin (by omega) (fun i y hy hi ha=>by
  rw[hs i y hy]
  cases iD (key y) p<;>rfl) he with ⟨i,x,hx,hp,hj,h⟩|⟨hn,h⟩
 ·have hi:=aH hx
  have:=hpl i (by omega) (fun j y hji hy=>by simpa using hj j y hji hy) (fun y hy=>by
   rw[hx] at hy
   obtain rfl:=Option.some.inj hy
   simpa using hp)
  rw[h,this,if_pos hi]
 ·have:=hpl l.length (Nat.le_refl _) (fun j y _ hy=>by simpa using hn j y hy) (fun y hy=>by rw[List.getElem?_eq_none (Nat.le_refl _)] at hy;cases hy)
  rw[h,this,if_neg (by omega)]
theorem FD(l:List α)(x:α):(FC key l x).Perm (x::l):=by
 unfold FC
 have e:=List.takeWhile_append_dropWhile (p:=fun y:α=>iD (key y) (key x)) (l:=l)
 have h:(l.takeWhile (fun y=>iD (key y) (key x))++[x]++l.dropWhile (fun y=>iD (key y) (key x))).Perm (x::(l.takeWhile (fun y=>iD (key y) (key x))++l.dropWhile (fun y=>iD (key y) (key x)))):=by
  rw[List.append_assoc]
  exact List.perm_middle
 rw[e] at h
 exact h
theorem Ef{l:List α}{x y:α}:y∈FC key l x↔y=x∨y∈l:=by rw[(FD key l x).mem_iff,List.mem_cons]
theorem XH(l:List α)(x:α):(FC key l x).length=l.length+1:=by rw[(FD key l x).length_eq,List.length_cons]
theorem Ql.inj{l:List α}(h:Ql key l){x y:α}(hx:x∈l)(hy:y∈l)(e:key x=key y):x=y:=by
 unfold Ql at h
 rw[List.pairwise_map] at h
 obtain⟨i,hi⟩:=bQ.1 hx
 obtain⟨j,hj⟩:=bQ.1 hy
 have h1:=aH hi
 have h2:=aH hj
 rw[List.getElem?_eq_getElem h1] at hi
 rw[List.getElem?_eq_getElem h2] at hj
 obtain rfl:=Option.some.inj hi
 obtain rfl:=Option.some.inj hj
 rcases Nat.lt_trichotomy i j with q|q|q
 ·have:=List.pairwise_iff_getElem.1 h i j h1 h2 q
  rw[e,qI] at this;cases this
 ·subst q;rfl
 ·have:=List.pairwise_iff_getElem.1 h j i h2 h1 q
  rw[e,qI] at this;cases this
theorem Zm{l:List α}(h:Ql key l){x:α}(hx:∀y∈l,key y≠key x):Ql key (FC key l x):=by
 unfold Ql at h⊢
 rw[List.pairwise_map] at h⊢
 unfold FC
 have e:=List.takeWhile_append_dropWhile (p:=fun y:α=>iD (key y) (key x)) (l:=l)
 have hA:∀y∈l.takeWhile (fun y=>iD (key y) (key x)),iD (key y) (key x)=true:=fun y hy=>JM (p:=fun y=>iD (key y) (key x)) hy
 have hB:∀y∈l.dropWhile (fun y=>iD (key y) (key x)),iD (key x) (key y)=true:=by
  clear e hA
  induction l with
  | nil=>intro y hy;cases hy
  | cons a r ih =>
    intro y hy
    rw[List.dropWhile_cons] at hy
    rw[List.pairwise_cons] at h
    split at hy
    ·exact ih h.2 (fun z hz=>hx z (List.mem_cons_of_mem _ hz)) y hy
    ·rename_i hq
     have ha:iD (key x) (key a)=true:=by
      rcases HG (key a) (key x) with q|q|q
      ·exact absurd q hq
      ·exact absurd q (hx a (List.mem_cons_self ..))
      ·exact q
     rcases List.mem_cons.1 hy with rfl|hy
     ·exact ha
     ·exact AK ha (h.1 y hy)
 rw[←e] at h
 rw[List.pairwise_append] at h
 obtain⟨p1,p2,p3⟩:=h
 rw[List.append_assoc,List.pairwise_append]
 refine⟨p1,?_,fun a ha b hb=>?_⟩
 ·rw[List.singleton_append,List.pairwise_cons]
  exact⟨hB,p2⟩
 ·rw[List.singleton_append] at hb
  rcases List.mem_cons.1 hb with rfl|hb
  ·exact hA a ha
  ·exact p3 a ha b hb
def XI(l:List α)(p:Tx):List α:=l.filter fun x=>decide (key x≠p)
theorem Zn{l:List α}{p:Tx}{x:α}:x∈XI key l p↔x∈l∧key x≠p:=by unfold XI;rw[List.mem_filter,decide_eq_true_iff]
theorem TR(l:List α)(p:Tx):(XI key l p).Sublist l:=List.filter_sublist
theorem aaY{l:List α}(h:Ql key l)(p:Tx):Ql key (XI key l p):=List.Pairwise.sublist ((TR key l p).map key) h
theorem XJ{l:List α}{p:Tx}(h:∀x∈l,key x≠p):XI key l p=l:=by
 unfold XI
 rw[List.filter_eq_self]
 intro x hx
 exact decide_eq_true (h x hx)
theorem Zo{l:List α}(h:Ql key l){i:Nat}{x:α}(hx:l[i]?=some x):l.take i++l.drop (i+1)=XI key l (key x):=by
 unfold Ql at h
 rw[List.pairwise_map] at h
 have hlt:=aH hx
 have hd:l.drop i=x::l.drop (i+1):=by
  rw[List.drop_eq_getElem_cons hlt]
  rw[List.getElem?_eq_getElem hlt] at hx
  rw[Option.some.inj hx]
 have hs:l=l.take i++(x::l.drop (i+1)):=by rw[←hd,List.take_append_drop]
 rw[hs,List.pairwise_append,List.pairwise_cons] at h
 obtain⟨_,⟨h2,_⟩,h3⟩:=h
 unfold XI
 conv=>rhs;rw[hs]
 rw[List.filter_append,List.filter_cons,if_neg (by simp)]
 congr 1
 ·symm
  rw[List.filter_eq_self]
  intro y hy
  exact decide_eq_true (Fb (h3 y hy x (List.mem_cons_self ..)))
 ·symm
  rw[List.filter_eq_self]
  intro y hy
  exact decide_eq_true fun q=>Fb (h2 y hy) q.symm
end
end Go.Ge
namespace Go.Ge
set_option linter.unusedSectionVars false
variable [Lp]
set_option linter.unusedVariables false
set_option linter.unusedSimpArgs false
abbrev XK:=Int×Tx×Int×Tx×Unit
def Qm(e:Int):XK:=(e,([],(0,([],()))))
def XL(id:Tx):XK:=(0,(id,(0,([],()))))
def vQ(s:bW):List Nm:=s.2.1.flatMap Ye
def S5(s:bW):List Nm:=s.2.2.1.flatMap YX
structure QW (s:bW):Prop where
 ll:s.2.2.1.length≤40
 il:s.2.1.length≤40
 bl:s.1.length≤40
 ln:∀x∈s.2.2.1,wR x.2.2.1
 sC:∀x∈s.2.1,wR x.2.1
 bn:∀x∈s.1,wR x.2.1
 it:∀x∈s.2.1,KT x.2.2.2.2.1
theorem NU.hd{s:bW}(h:NU s):QW s:=⟨h.ll,h.il,h.bl,fun x hx=>(h.xl x hx).2.2.1,fun x hx=>(h.xi x hx).2.1,fun x hx=>(h.xb x hx).2.1,fun x hx=>(h.xi x hx).2.2.2⟩
theorem QW.acK{s:bW}(h:QW s):FewB (0,(s.2.2.1,([],([],())))):=⟨h.ll,h.ln,by simp,fun x hx=>(by cases hx),by simp,fun x hx=>(by cases hx)⟩
theorem QW.Zp{s:bW}(h:QW s):FewB (0,([],(s.2.1,([],())))):=⟨by simp,fun x hx=>(by cases hx),h.il,h.sC,by simp,fun x hx=>(by cases hx)⟩
theorem Vq{s:bW}(h:QW s):Small (S5 s):=LX 3 _ h.acK
theorem Mn{s:bW}(h:QW s):Small (vQ s):=LX 2 _ h.Zp
theorem Zq{s:bW}(h:QW s):(S5 s).length≤40:=Nat.le_trans (oY Nu _) h.ll
theorem Zr{s:bW}(h:QW s):(vQ s).length≤40:=Nat.le_trans (oY Nv _) h.il
theorem FE(s:bW)(h:QW s):qa (s,())=some (S5 s,()):=by
 unfold qa
 dsimp only
 rw[DV 3 _ h.acK,aa]
 rfl
theorem xd(s:bW)(h:QW s):fH (s,())=some (vQ s,()):=by
 unfold fH
 dsimp only
 rw[DV 2 _ h.Zp,aa]
 rfl
theorem Hj(s:bW)(ref:Tx)(h:QW s):rC (s,(ref,()))=some (ig (S5 s) ref):=by
 unfold rC
 dsimp only
 rw[FE s h,aa,yK _ _ (Vq h) (by have:=Zq h;omega),aa]
theorem yL(s:bW)(ref:Tx)(h:QW s):nS (s,(ref,()))=some (ig (vQ s) ref):=by
 unfold nS
 dsimp only
 rw[xd s h,aa,yK _ _ (Mn h) (by have:=Zr h;omega),aa]
theorem Mo(l:List Tx)(h:l.length≤4294967296):bL (l,())=some (l,()):=xT l h
theorem Gp(l:List Item)(h:l.length≤4294967296):cI (l,())=some (l,()):=by
 unfold cI
 rw[wN h]
 rfl
theorem JO(s:bW)(x:cH)(hl:s.2.1.length≤1000000)(hn:x.2.1.length≤4294967296)(hi:x.2.2.2.2.1.length≤4294967296)(hnew:∀y∈s.2.1,y.1≠x.1) :
  qb (s,(x,()))=some ((s.1,(FC (·.1) s.2.1 x,s.2.2)),()):=by
 obtain⟨bo,im,rest⟩:=s
 obtain⟨x1,x2,x3,x4,x5,u⟩:=x
 dsimp only at hl hn hi hnew
 unfold qb
 dsimp only
 rw[Mo _ hn,aa,Gp _ hi,aa]
 unfold eB
 dsimp only
 rw[aa,wN (by omega),ag]
 have hno:Loop (kK ((bo,(im,rest)),((x1,(x2,(x3,(x4,(x5,u))))),()))) (((0:Int),((0:Int),())),((),(x1,())))=some (0,(((0:Int),(len im,())),((),(x1,())))):=by
  rcases mM (f:=kK ((bo,(im,rest)),((x1,(x2,(x3,(x4,(x5,u))))),()))) im (fun i=>(((0:Int),(i,())),((),(x1,())))) (fun _ y=>decide (y.1=x1)) (fun i _=>(1,(((i:Int),((i:Int),())),((),(x1,()))))) (0,(((0:Int),(len im,())),((),(x1,())))) (by omega) (fun i y hy hi ha=>by
   unfold kK eB
   dsimp only
   rw[au hi,ag,az hy,aa,aa,nk,lX,ha]
   by_cases q:y.1=x1<;>simp[q]) (by unfold kK;dsimp only;rw[aE,af];rfl) with ⟨i,y,hy,hp,_,_⟩|⟨_,h⟩
  ·exact absurd (of_decide_eq_true hp) (hnew y (List.mem_of_getElem? hy))
  ·exact h
 rw[hno,aa]
 dsimp only
 rw[cG,ag,show cO (0:Int) (-1)=false from rfl,af,aa]
 dsimp only
 have hpos:=S4 (f:=oA (((),()),(im,()))) (·.1) im x1 hl (fun i=>(((0:Int),(i,())),((),((x1,(x2,(x3,(x4,(x5,u))))),())))) (fun i=>(1,(((i:Int),((i:Int),())),((),((x1,(x2,(x3,(x4,(x5,u))))),())))))
  (0,(((0:Int),((im.length:Int),())),((),((x1,(x2,(x3,(x4,(x5,u))))),())))) (fun i y hy=>by
   have hi:=aH hy
   unfold oA eB
   dsimp only
   rw[au hi,ag,cF (by omega) (by unfold len;omega),ag,az hy,aa,aa,aa,aZ (by omega)]
   cases iD y.1 x1<;>rfl) (by unfold oA;dsimp only;rw[aE,af])
 rw[hpos,aa]
 have hins:=S3 (·.1) im ((x1,(x2,(x3,(x4,(x5,u))))):cH) hl
 unfold bJ
 by_cases hk:nG (fun y:cH=>y.1) im x1<im.length
 ·rw[if_pos hk]
  dsimp only
  rw[show fB 1 0=false from rfl,af,aJ (by omega),af]
  dsimp only
  rw[show Nh im ((nG (fun y:cH=>y.1) im x1:Nat):Int) [((x1,(x2,(x3,(x4,(x5,u))))):cH)]=_ from hins,aa]
 ·rw[if_neg hk]
  dsimp only
  have hk2:nG (fun y:cH=>y.1) im x1=im.length:=by have:=Mm (fun y:cH=>y.1) im x1;omega
  rw[cG,ag,aT (by decide),ag]
  dsimp only
  rw[bN,←hk2,show Nh im ((nG (fun y:cH=>y.1) im x1:Nat):Int) [((x1,(x2,(x3,(x4,(x5,u))))):cH)]=_ from hins,aa]
theorem JP(s:bW)(id:Tx)(h:QW s):∃r,qc (s,(id,()))=some r∧(∀x∈s.2.1,Ql (·.1) s.2.1→x.1=id→r=(x,(true,()))):=by
 unfold qc
 rcases mM (f:=oB (s,(id,()))) s.2.1 (fun i=>((false,(i,())),((([]:Tx),(([]:List Tx),(([]:Tx),(([]:Tx),(([]:List Item),()))))),()))) (fun _ y=>decide (y.1=id)) (fun i y=>(1,((true,((i:Int),())),(y,())))) (0,((false,(len s.2.1,())),((([]:Tx),(([]:List Tx),(([]:Tx),(([]:Tx),(([]:List Item),()))))),()))) (by have:=h.il;omega) (fun i y hy hi ha=>by
  have hm:=List.mem_of_getElem? hy
  unfold oB
  dsimp only
  rw[au hi,ag,az hy,aa,nk,ha]
  by_cases q:y.1=id
  ·rw[decide_eq_true q,ag,Mo _ (h.sC y hm).small,aa,Gp _ (by have:=(h.it y hm).1;omega),aa]
   rfl
  ·rw[decide_eq_false q,af]
   rfl) (by unfold oB;dsimp only;rw[aE,af];rfl) with ⟨i,y,hy,hp,_,hr⟩|⟨hn,hr⟩
 ·rw[hr,aa]
  refine⟨(y,(true,())),rfl,fun x hx hu he=>?_⟩
  rw[hu.inj (fun z:cH=>z.1) hx (List.mem_of_getElem? hy) (he.trans (of_decide_eq_true hp).symm)]
 ·rw[hr,aa]
  refine⟨_,rfl,fun x hx hu he=>?_⟩
  obtain⟨i,hi⟩:=bQ.1 hx
  have:=hn i x hi
  simp[he] at this
def crI(s:bW)(top:Tx)(given:List Tx)(meta':Tx)(d:Int):bW×XK×Unit :=
 if sH given≠0∨64<meta'.length then(s,(Qm 1,())) else
 if top≠[]∧(ig (S5 s) top).2.1≠0 then(s,(Qm (ig (S5 s) top).2.1,())) else
 if zF (vQ s) [] given≠0 then(s,(Qm (zF (vQ s) [] given),())) else
 if(kj (vQ s) d).2.1≠0 then(s,(Qm (kj (vQ s) d).2.1,())) else
 ((s.1,(FC (·.1) s.2.1 ((kj (vQ s) d).1,(given,((if top=[] then [] else(ig (S5 s) top).1),(meta',([],()))))),s.2.2)),(XL (kj (vQ s) d).1,()))
theorem HL{s:bW}{x:cH}(hx:x∈s.2.1):((x.1,(x.2.1,())):Nm)∈vQ s:=by
 unfold vQ
 rw[List.mem_flatMap]
 exact⟨x,hx,by unfold Ye;exact List.mem_singleton.2 rfl⟩
theorem Eg(s:bW)(top:Tx)(given:List Tx)(meta':Tx)(d:Int)(h:QW s)(hg:given.length≤4294967296)(hb:s.2.1.length≤1000000) :
  iy (s,(top,(given,(meta',(d,())))))=some (crI s top given meta' d):=by
 unfold iy crI
 dsimp only
 have e64:aY (64:Int) (@len UInt8 meta')=decide (64<meta'.length):=by unfold aY len;apply decide_eq_decide.2;omega
 rw[Gc given hg,aa,e64]
 dsimp only
 by_cases c1:sH given=0
 rotate_left
 ·rw[if_pos (.inl c1),aN c1];rfl
 by_cases c2:64<meta'.length
 ·rw[if_pos (.inr c2),aR c1,decide_eq_true c2];rfl
 rw[if_neg (by rintro(q|q);exact q c1;exact c2 q),aR c1,decide_eq_false c2,aK,aF,ag,af,nk]
 have hfree:=Jc (vQ s) [] given (Mn h) hg
 have hfresh:=US (vQ s) d
 have rest:∀t:Tx,(ah (aj (bC (0:Int) 0) (ah (fH (s,())) (fun(y3:(List Nm)×Unit)=>ah (p7 (y3.1,(([]:Tx),(given,())))) (fun(y4:Int×Unit)=>some ((y4.1,()),())))) (some (((0:Int),()),()))) (fun(y3:(Int×Unit)×Unit)=>ah (aj (bC y3.1.1 (0:Int))
   (ah (fH (s,())) (fun(y4:(List Nm)×Unit)=>ah (mu (y4.1,(d,()))) (fun(y5:Tx×Int×Unit)=>some ((y5.2.1,()),((y5.1,((given,(t,(meta',(([]:List Item),())))):List Tx×Tx×Tx×List Item×Unit)),())))))
   (some ((y3.1.1,()),((([]:Tx),(given,(t,(meta',(([]:List Item),()))))),())))) (fun(y4:(Int×Unit)×cH×Unit)=>aj (nt (bC y4.1.1 (0:Int)))
   (ah (gQ (y4.1.1,())) (fun(y5:XK×Unit)=>some (s,(y5.1,()))))
   (ah (qb (s,(y4.2.1,()))) (fun(y5:bW×Unit)=>some (y5.1,(((0:Int),(y4.2.1.1,((0:Int),(([]:Tx),())))),()))))))) =
   some (if zF (vQ s) [] given≠0 then(s,(Qm (zF (vQ s) [] given),())) else
    if(kj (vQ s) d).2.1≠0 then(s,(Qm (kj (vQ s) d).2.1,())) else
    ((s.1,(FC (·.1) s.2.1 ((kj (vQ s) d).1,(given,(t,(meta',([],()))))),s.2.2)),(XL (kj (vQ s) d).1,()))):=by
  intro t
  rw[show bC (0:Int) 0=true from rfl,ag,xd s h,aa]
  dsimp only
  rw[hfree,aa,aa]
  dsimp only
  by_cases c4:zF (vQ s) [] given=0
  rotate_left
  ·rw[if_pos c4,aN c4,af,aa]
   dsimp only
   rw[aN c4,aF,ag]
   rfl
  rw[if_neg (fun q=>q c4),aR c4,ag,aa]
  dsimp only
  rw[hfresh,aa,aa]
  dsimp only
  by_cases c5:(kj (vQ s) d).2.1=0
  rotate_left
  ·rw[if_pos c5,aN c5,aF,ag]
   rfl
  rw[if_neg (fun q=>q c5),aR c5,aK,af]
  obtain⟨_,_,hne⟩:=PU c5
  rw[JO s _ hb hg (by simp) (fun y hy=>hne _ (HL hy)),aa]
  rfl
 by_cases c3:top=[]
 ·rw[decide_eq_true c3,aK,af,aa,if_neg (fun q=>q.1 c3),if_pos c3]
  exact rest []
 ·rw[decide_eq_false c3,aF,ag,Hj s top h,aa,aa,if_neg c3]
  dsimp only
  by_cases c6:(ig (S5 s) top).2.1=0
  ·rw[if_neg (fun q=>q.2 c6),c6]
   exact rest _
  ·rw[if_pos ⟨c3,c6⟩,aN c6,af,aa]
   dsimp only
   rw[aN c6,af,aa]
   dsimp only
   rw[aN c6,aF,ag]
   rfl
end Go.Ge
namespace Go.Ge
set_option linter.unusedSectionVars false
variable [Lp]
set_option linter.unusedVariables false
set_option linter.unusedSimpArgs false
theorem yd(l:List Tx)(h:l.length≤4294967296):ef (l,(l,()))=some (true,()):=by rw[G9 l l h,decide_eq_true rfl]
theorem JQ(l:List Item)(h:KT l):fR (l,(l,()))=some (true,()):=Jo l (by have:=h.1;omega)
theorem qM(a:Tx):cc a a=true:=decide_eq_true rfl
theorem AQ{α:Type}{f:(Bool×Int×Unit)×Unit→Option (((Bool×Int×Unit)×Unit)⊕(Nat×(Bool×Int×Unit)×Unit))}(l:List α)(hl:l.length≤1000000)
  (hs:∀(i:Nat) (x:α),l[i]?=some x→x∈l→i<l.length→f ((false,((i:Int),())),())=some (.inl ((false,(aI .i64 (i:Int) 1,())),()))) (he:f ((false,((l.length:Int),())),())=some (.inr (0,((false,((l.length:Int),())),())))) :
  Loop f ((false,((0:Int),())),())=some (0,((false,((l.length:Int),())),())) :=
 ez l.length (fun j:Nat=>((false,((j:Int),())),())) (fun j hj=>by
  have hx:l[j]?=some l[j]:=List.getElem?_eq_getElem hj
  rw[hs j l[j] hx (List.getElem_mem hj) hj,aZ (by omega)]) he
theorem S6(l:List Bb)(hl:l.length≤1000000)(h:∀x∈l,BdB x):lE (l,(l,()))=some (true,()):=by
 unfold lE
 dsimp only
 rw[nL,aK,af,AQ (f:=iN (l,(l,()))) l hl (fun i x hx hm hi=>by
  unfold iN
  dsimp only
  rw[au hi,ag,az hx,aa,aa]
  simp only[qM,ag,af,aK,aF,aa,yd _ (h x hm).2.1.small,JQ _ (h x hm).2.2.2.2]) (by unfold iN;dsimp only;rw[aE,af];rfl),aa]
 rfl
theorem Qn(l:List cH)(hl:l.length≤1000000)(h:∀x∈l,BdI x):j9 (l,(l,()))=some (true,()):=by
 unfold j9
 dsimp only
 rw[nL,aK,af,AQ (f:=hU (l,(l,()))) l hl (fun i x hx hm hi=>by
  unfold hU
  dsimp only
  rw[au hi,ag,az hx,aa,aa]
  simp only[qM,ag,af,aK,aF,aa,yd _ (h x hm).2.1.small,JQ _ (h x hm).2.2.2]) (by unfold hU;dsimp only;rw[aE,af];rfl),aa]
 rfl
theorem Qo(l:List b7)(hl:l.length≤1000000)(h:∀x∈l,wR x.2.2.1):ke (l,(l,()))=some (true,()):=by
 unfold ke
 dsimp only
 rw[nL,aK,af,AQ (f:=hY (l,(l,()))) l hl (fun i x hx hm hi=>by
  unfold hY
  dsimp only
  rw[au hi,ag,az hx,aa,aa]
  have eb:X1 x.2.2.2.2.2.2.1 x.2.2.2.2.2.2.1=true:=by unfold X1;simp
  simp only[qM,nL,eb,ag,af,aK,aF,aa,yd _ (h x hm).small]) (by unfold hY;dsimp only;rw[aE,af];rfl),aa]
 rfl
theorem Qp(l:List zO)(hl:l.length≤1000000):kf (l,(l,()))=some (true,()):=by
 unfold kf
 dsimp only
 rw[nL,aK,af,AQ (f:=ia (l,(l,()))) l hl (fun i x hx hm hi=>by
  unfold ia
  dsimp only
  rw[au hi,ag,az hx,aa,aa]
  simp only[qM,nL,ag,af,aK,aF]
  rfl) (by unfold ia;dsimp only;rw[aE,af];rfl),aa]
 rfl
theorem Qq(s:bW)(h:NU s)(hd:s.2.2.2.1.length≤1000000):kg (s,(s,()))=some (true,()):=by
 unfold kg
 dsimp only
 rw[S6 _ (by have:=h.bl;omega) h.xb,aa]
 dsimp only
 rw[ag,Qn _ (by have:=h.il;omega) h.xi,aa,aa,ag,Qo _ (by have:=h.ll;omega) (fun x hx=>(h.xl x hx).2.2.1),aa,aa,ag,yd _ (by omega),aa,aa,ag,Qp _ h.ml,aa]
 rfl
theorem K2{ref:Tx}{f:List Tx}(h:(tP ref f).2.1=0):(tP ref f).1∈f:=by
 unfold tP at h⊢
 split at h
 ·cases h
 ·rename_i hq
  rw[if_neg hq]
  match f,h with
  | [a],_=>simp
theorem Vr{l:List Nm}{ref:Tx}(h:(ig l ref).2.1=0):∃x∈l,x.1=(ig l ref).1:=by
 unfold ig at h⊢
 by_cases h1:∃x∈l,x.1=ref
 ·rw[if_pos h1];exact h1
 ·rw[if_neg h1] at h⊢
  cases hf:l.find? (fun x=>decide (ref∈x.2.1)) with
  | some x=>exact⟨x,List.mem_of_find?_eq_some hf,rfl⟩
  | none =>
    rw[hf] at h
    have:=K2 h
    unfold NI at this⊢
    rw[List.mem_flatMap] at this
    obtain⟨x,hx,hm⟩:=this
    refine⟨x,hx,?_⟩
    unfold NH at hm
    split at hm
    ·rw[List.mem_singleton] at hm;exact hm.symm
    ·cases hm
theorem S7{l:List Nm}{ref:Tx}{x:Nm}(hx:x∈l)(hn:ref∈x.2.1)(hid:∀y∈l,y.1≠ref)(hone:∀y∈l,ref∈y.2.1→y=x):ig l ref=(x.1,(0,())):=by
 unfold ig
 rw[if_neg (by rintro⟨y,hy,he⟩;exact hid y hy he)]
 cases hf:l.find? (fun x=>decide (ref∈x.2.1)) with
 | some y =>
   have h1:=List.mem_of_find?_eq_some hf
   have h2:=List.find?_some hf
   rw[hone y h1 (of_decide_eq_true h2)]
 | none =>
   rw[List.find?_eq_none] at hf
   exact absurd hn (by simpa using hf x hx)
theorem Zs{l:List Nm}{given:List Tx}(h:zF l [] given=0)(hid:∀x∈l,x.1≠[]):mR given=true∧∀x∈l,∀s∈x.2.1,s∉given:=by
 unfold zF at h
 by_cases c:sH given=0
 rotate_left
 ·rw[if_pos c] at h;exact absurd h c
 rw[if_neg (fun q=>q c)] at h
 refine⟨?_,fun x hx s hs hg=>?_⟩
 ·unfold sH at c
  by_cases q:mR given=true
  ·exact q
  ·rw[if_neg q] at c;cases c
 ·have hc:Jb l given (DU l [])=true:=by
   rw[Ff]
   obtain⟨i,hi⟩:=bQ.1 hx
   refine⟨i,x,hi,?_⟩
   unfold UF
   have hf:DU l []=-1:=I8 fun j y hy=>decide_eq_false (hid y (List.mem_of_getElem? hy))
   rw[hf,Bool.and_eq_true,decide_eq_true_iff,List.any_eq_true]
   exact⟨by omega,s,hs,decide_eq_true hg⟩
  rw[if_pos hc] at h
  cases h
end Go.Ge
namespace Go.Ge
set_option linter.unusedSectionVars false
variable [Lp]
set_option linter.unusedVariables false
set_option linter.unusedSimpArgs false
open Classical in
noncomputable def ZT(s:bW)(ref:Tx):bW×XK×Unit :=
 if(ig (vQ s) ref).2.1≠0 then(s,(Qm (ig (vQ s) ref).2.1,())) else
 if ∃x∈s.1,x.2.2.1=(ig (vQ s) ref).1 then(s,(Qm 7,())) else
 ((s.1,(XI (·.1) s.2.1 (ig (vQ s) ref).1,s.2.2)),(XL (ig (vQ s) ref).1,()))
theorem Zt{α:Type}(key:α→Tx)(l:List α)(p:Tx)(hu:Ql key l)(i:Nat)(x:α)(hx:l[i]?=some x)(he:key x=p)(hl:l.length≤1000000):Sd l (i:Int) (aI .i64 (i:Int) 1)=some (XI key l p):=by
 have hlt:=aH hx
 unfold Sd
 rw[aZ (by omega),bB (by omega) (by omega) (by unfold len;omega),cond_true,Int.toNat_natCast,Int.toNat_natCast,Zo key hu hx,he]
theorem Eh(s:bW)(ref:Tx)(h:QW s)(hu:Ql (·.1) s.2.1):iz (s,(ref,()))=some (ZT s ref):=by
 have hil:=h.il
 have X9:=h.bl
 unfold iz ZT
 dsimp only
 rw[yL s ref h,aa]
 by_cases c1:(ig (vQ s) ref).2.1=0
 rotate_left
 ·rw[if_pos c1,aN c1];rfl
 rw[if_neg (fun q=>q c1),aR c1,aK,af]
 generalize (ig (vQ s) ref).1=id
 rcases mM (f:=jV (s,(ref,()))) s.1 (fun i=>(((0:Int),(i,())),(id,()))) (fun _ y=>decide (y.2.2.1=id)) (fun i _=>(1,(((i:Int),((i:Int),())),(id,())))) (0,(((0:Int),(len s.1,())),(id,()))) (by omega) (fun i y hy hi ha=>by
  unfold jV
  dsimp only
  rw[au hi,ag,az hy,aa,nk,lX,ha]
  by_cases q:y.2.2.1=id<;>simp[q]) (by unfold jV;dsimp only;rw[aE,af];rfl) with ⟨i,y,hy,hp,_,hr⟩|⟨hn,hr⟩
 ·rw[hr,aa,if_pos ⟨y,List.mem_of_getElem? hy,of_decide_eq_true hp⟩]
  dsimp only
  rw[show fB 1 0=false from rfl,af,cz (by omega),ag]
  rfl
 ·rw[hr,aa,if_neg (by
   rintro⟨y,hy,he⟩
   obtain⟨i,hi⟩:=bQ.1 hy
   have:=hn i y hi
   simp[he] at this)]
  dsimp only
  rw[cG,ag,show cO (0:Int) (-1)=false from rfl,af,wN (by omega),ag]
  rcases mM (f:=jW (s,(ref,()))) s.2.1 (fun i=>(((0:Int),(i,())),((),(id,())))) (fun _ y=>decide (y.1=id)) (fun i _=>(1,(((i:Int),((i:Int),())),((),(id,()))))) (0,(((0:Int),(len s.2.1,())),((),(id,())))) (by omega) (fun i y hy hi ha=>by
   unfold jW eB
   dsimp only
   rw[au hi,ag,az hy,aa,aa,nk,lX,ha]
   by_cases q:y.1=id<;>simp[q]) (by unfold jW;dsimp only;rw[aE,af];rfl) with ⟨i,y,hy,hp,_,hr⟩|⟨hn,hr⟩
  ·rw[hr,aa]
   dsimp only
   rw[show fB 1 0=false from rfl,af,cz (by omega),ag]
   unfold bh
   dsimp only
   rw[Zt (fun x:cH=>x.1) s.2.1 id hu i y hy (of_decide_eq_true hp) (by omega),aa,aa]
   rfl
  ·rw[hr,aa]
   dsimp only
   rw[cG,ag,af,aa,XJ (fun x:cH=>x.1) (l:=s.2.1) (p:=id) (fun x hx he=>by
    obtain⟨i,hi⟩:=bQ.1 hx
    have:=hn i x hi
    simp[he] at this)]
   rfl
theorem Qr{α β:Type}{l m:List α}(h:l.Sublist m)(g:α→List β):(l.flatMap g).Sublist (m.flatMap g):=by
 induction h with
 | slnil=>exact List.Sublist.refl _
 | cons a _ ih=>rw[List.flatMap_cons];exact ih.trans (List.sublist_append_right _ _)
 | cons_cons a _ ih=>rw[List.flatMap_cons,List.flatMap_cons];exact(List.Sublist.refl _).append ih
theorem QV.upI{s:bW}(h:QV s):Ql (·.1) s.2.1:=by
 have:=h.i.ids
 unfold SF at this
 simpa [Ql] using this
theorem QV.acL{s:bW}(h:QV s):(s.2.1.flatMap (·.2.1)).Nodup:=by
 have:=h.i.nms
 unfold SG at this
 simpa using this
theorem QV.Zp{s:bW}(h:QV s):s.2.1.length≤32:=h.i.BB
theorem NW{s:bW}{y:Nm}(h:y∈vQ s):∃x∈s.2.1,y=(x.1,(x.2.1,())):=by
 unfold vQ at h
 rw[List.mem_flatMap] at h
 obtain⟨x,hx,hm⟩:=h
 unfold Ye at hm
 rw[List.mem_singleton] at hm
 exact⟨x,hx,hm⟩
theorem S8(s:bW):(vQ s).length=s.2.1.length:=by
 unfold vQ
 induction s.2.1 with
 | nil=>rfl
 | cons a r ih=>rw[List.flatMap_cons,List.length_append,ih];simp[Ye];omega
theorem Zu{s:bW}{y:Nm}(h:y∈S5 s):∃x∈s.2.2.1,y=(x.1,(x.2.2.1,())):=by
 unfold S5 at h
 rw[List.mem_flatMap] at h
 obtain⟨x,hx,hm⟩:=h
 unfold YX at hm
 split at hm
 ·rw[List.mem_singleton] at hm
  exact⟨x,hx,hm⟩
 ·cases hm
theorem S9:¬CG []:=fun h=>by have:=h.2;cases this
theorem xX.Qs{l:List cH}(h1:l.length≤32)(h2:∀x∈l,UZ x)(h3:Ql (·.1) l)(h4:(l.flatMap (·.2.1)).Nodup):xX 2 (0,([],(l,([],())))) :=
 ⟨h1,by show 0+l.length+0=l.length;omega,fun x hx=>(by cases hx),h2,fun x hx=>(by cases hx),by unfold SF;simpa [Ql] using h3,by unfold SG;simpa using h4⟩
theorem QV.Qs{s:bW}(h:QV s){l:List cH}(h1:xX 2 (0,([],(l,([],())))))(h2:∀x∈l,JL s x)(h3:∀x∈s.1,x.2.2.1=[]∨∃y∈l,y.1=x.2.2.1):QV (s.1,(l,s.2.2)) :=
 ⟨h.b,h1,h.l,h.lays,h.acJ,h2,fun x hx=>⟨h3 x hx,(h.refs x hx).2⟩,h.mts,h.ZR⟩
theorem NU.Qs{s:bW}(h:NU s){l:List cH}(h1:l.length≤40)(h2:∀x∈l,BdI x):NU (s.1,(l,s.2.2)):=⟨h.ll,h1,h.bl,h.xl,h2,h.xb,h.dl,h.ml⟩
theorem Vs{s:bW}(hB:NU s)(hS:QV s)(ref:Tx):QV (ZT s ref).1∧NU (ZT s ref).1∧((ZT s ref).2.1.1≠0→(ZT s ref).1=s):=by
 unfold ZT
 by_cases c1:(ig (vQ s) ref).2.1=0
 rotate_left
 ·rw[if_pos c1];exact⟨hS,hB,fun _=>rfl⟩
 rw[if_neg (fun q=>q c1)]
 by_cases c2:∃x∈s.1,x.2.2.1=(ig (vQ s) ref).1
 ·rw[if_pos c2];exact⟨hS,hB,fun _=>rfl⟩
 rw[if_neg c2]
 generalize (ig (vQ s) ref).1=id at c2
 have hsub:=TR (fun x:cH=>x.1) s.2.1 id
 have hmem:∀x∈XI (fun x:cH=>x.1) s.2.1 id,x∈s.2.1:=fun x hx=>hsub.subset hx
 refine⟨hS.Qs (xX.Qs ?_ (fun x hx=>hS.i.il x (hmem x hx)) (aaY _ hS.upI id) ?_) (fun x hx=>hS.tops x (hmem x hx)) (fun x hx=>?_),hB.Qs ?_ (fun x hx=>hB.xi x (hmem x hx)),fun q=>absurd rfl q⟩
 ·have:=hsub.length_le;have:=hS.Zp;omega
 ·exact List.Nodup.sublist (Qr hsub _) hS.acL
 ·rcases(hS.refs x hx).1 with q|⟨y,hy,he⟩
  ·exact .inl q
  ·exact .inr ⟨y,(Zn _).2 ⟨hy,fun q=>c2 ⟨x,hx,he.symm.trans q⟩⟩,he⟩
 ·have:=hsub.length_le;have:=hB.il;omega
theorem Vt{s:bW}(hB:NU s)(hS:QV s)(top:Tx)(given:List Tx)(meta':Tx)(d:Int)(hg:wR given) :
  let r:=crI s top given meta' d
  QV r.1∧NU r.1∧(r.2.1.1≠0→r.1=s)∧(r.2.1.1=0→∃x:cH,r.1=(s.1,(FC (·.1) s.2.1 x,s.2.2))∧x.1=r.2.1.2.1∧x.2.1=given∧x.2.2.2.1=meta'∧x.2.2.2.2.1=[]∧CG x.1∧(∀y∈s.2.1,y.1≠x.1)∧∀y∈s.2.1,∀n∈y.2.1,n∉given):=by
 intro r
 have hr:r=crI s top given meta' d:=rfl
 unfold crI at hr
 by_cases c1:sH given≠0∨64<meta'.length
 ·rw[if_pos c1] at hr;rw[hr];exact⟨hS,hB,fun _=>rfl,fun q=>by cases q⟩
 rw[if_neg c1] at hr
 by_cases c2:top≠[]∧(ig (S5 s) top).2.1≠0
 ·rw[if_pos c2] at hr;rw[hr];exact⟨hS,hB,fun _=>rfl,fun q=>absurd q c2.2⟩
 rw[if_neg c2] at hr
 by_cases c3:zF (vQ s) [] given≠0
 ·rw[if_pos c3] at hr;rw[hr];exact⟨hS,hB,fun _=>rfl,fun q=>absurd q c3⟩
 rw[if_neg c3] at hr
 by_cases c4:(kj (vQ s) d).2.1≠0
 ·rw[if_pos c4] at hr;rw[hr];exact⟨hS,hB,fun _=>rfl,fun q=>absurd q c4⟩
 rw[if_neg c4] at hr
 have c3:zF (vQ s) [] given=0:=Classical.byContradiction c3
 have c4:(kj (vQ s) d).2.1=0:=Classical.byContradiction c4
 obtain⟨q1,q2,q3⟩:=PU c4
 rw[S8] at q1
 obtain⟨f1,f2⟩:=Zs c3 (fun y hy=>by
  obtain⟨x,hx,rfl⟩:=NW hy
  intro he
  have:=(hS.i.il x hx).id
  rw[show x.1=[] from he] at this
  exact S9 this)
 have f2':∀y∈s.2.1,∀n∈y.2.1,n∉given:=fun y hy n hn=>f2 _ (HL hy) n hn
 have q3':∀y∈s.2.1,y.1≠(kj (vQ s) d).1:=fun y hy=>q3 _ (HL hy)
 generalize (kj (vQ s) d).1=id at hr q2 q3'
 have aaZ:(if top=[] then [] else(ig (S5 s) top).1)=[]∨∃y∈s.2.2.1,y.1=(if top=[] then [] else(ig (S5 s) top).1):=by
  by_cases c:top=[]
  ·rw[if_pos c];exact .inl rfl
  ·rw[if_neg c]
   right
   have c6:(ig (S5 s) top).2.1=0:=Classical.byContradiction fun q=>c2 ⟨c,q⟩
   obtain⟨y,hy,he⟩:=Vr c6
   obtain⟨x,hx,rfl⟩:=Zu hy
   exact⟨x,hx,he⟩
 generalize (if top=[] then [] else(ig (S5 s) top).1)=t at hr aaZ
 have hid:t=[]∨CG t:=by
  rcases aaZ with q|⟨y,hy,he⟩
  ·exact .inl q
  ·exact .inr (he▸(hS.l.ll y hy).id)
 have acM:meta'.length≤64:=by
  have:¬64<meta'.length:=fun q=>c1 (.inr q)
  omega
 have hlen:∀{a:Tx},CG a→a.length≤1048576:=fun {a} h=>by have:=h.2;omega
 have hx:∀x∈FC (fun x:cH=>x.1) s.2.1 ((id,(given,(t,(meta',([],()))))):cH),x=(id,(given,(t,(meta',([],())))))∨x∈s.2.1:=fun x hx=>(Ef _).1 hx
 have hl:=XH (fun x:cH=>x.1) s.2.1 ((id,(given,(t,(meta',([],()))))):cH)
 rw[hr]
 refine⟨hS.Qs (xX.Qs (by omega) (fun x hx'=>?_) (Zm _ hS.upI q3') ?_) (fun x hx'=>?_) (fun x hx'=>?_),hB.Qs (by omega) (fun x hx'=>?_),fun q=>absurd rfl q,fun _=>⟨(id,(given,(t,(meta',([],()))))),rfl,rfl,rfl,rfl,rfl,q2,q3',f2'⟩⟩
 ·rcases hx x hx' with rfl|hx'
  ·exact⟨q2,f1,hid,acM,⟨by simp,List.Pairwise.nil,fun x hx=>(by cases hx)⟩⟩
  ·exact hS.i.il x hx'
 ·have hp:=(FD (fun x:cH=>x.1) s.2.1 ((id,(given,(t,(meta',([],()))))):cH)).flatMap_right (fun x:cH=>x.2.1)
  rw[hp.nodup_iff,List.flatMap_cons,List.nodup_append]
  refine⟨?_,hS.acL,fun a ha b hb=>?_⟩
  ·unfold mR at f1
   simp only[Bool.and_eq_true,decide_eq_true_eq] at f1
   exact f1.1.2
  ·rw[List.mem_flatMap] at hb
   obtain⟨y,hy,hn⟩:=hb
   rintro rfl
   exact f2' y hy a hn ha
 ·rcases hx x hx' with rfl|hx'
  ·exact aaZ
  ·exact hS.tops x hx'
 ·rcases(hS.refs x hx').1 with q|⟨y,hy,he⟩
  ·exact .inl q
  ·exact .inr ⟨y,(Ef _).2 (.inr hy),he⟩
 ·rcases hx x hx' with rfl|hx'
  ·refine⟨hlen q2,hg,?_,⟨by simp,fun x hx=>(by cases hx)⟩⟩
   rcases hid with q|q
   ·show t.length≤_;rw[q];simp
   ·exact hlen q
  ·exact hB.xi x hx'
end Go.Ge
namespace Go.Ge
set_option linter.unusedSectionVars false
variable [Lp]
set_option linter.unusedVariables false
set_option linter.unusedSimpArgs false
theorem Mp{c:Bool}{x:Option (Bool×Unit)}(h:c=false→x=some (true,())):aj c (ah (nT ()) fun y=>some (y.1,())) x=some (true,()):=by
 cases c with
 | true=>rw[ag,NK];rfl
 | false=>rw[af];exact h rfl
end Go.Ge
namespace Go.Ge
set_option linter.unusedSectionVars false
variable [Lp]
set_option linter.unusedVariables false
set_option linter.unusedSimpArgs false
def uF:Tx:=[102,114,101,115,104,45,110,97,109,101]
structure BkS (s:bW):Prop where
 il:∀x∈s.2.1,x.1.length≤1048576∧x.2.2.1.length≤1048576
 bl:∀x∈s.1,x.1.length≤1048576∧x.2.2.1.length≤1048576∧x.2.2.2.1.length≤1048576
 dg:∀x∈s.2.2.1,x.2.2.2.1.length≤1048576
theorem aaM.bd{s:bW}(h:aaM s)(k:BkS s):NU s where
 ll:=h.base.ll
 il:=h.base.il
 bl:=h.base.bl
 xl:=fun x hx=>⟨by have:=h.ids x hx;omega,by have:=h.ids x hx;omega,h.base.ln x hx,k.dg x hx⟩
 xi:=fun x hx=>⟨(k.il x hx).1,h.base.sC x hx,(k.il x hx).2,(h.base.im x hx).2⟩
 xb:=fun x hx=>⟨(k.bl x hx).1,h.base.bn x hx,(k.bl x hx).2.1,(k.bl x hx).2.2,(h.base.bm x hx).2⟩
 dl:=h.aer
 ml:=by have:=h.mts;omega
theorem Hl(s:bW)(xs:List Tx)(n:Int)(hx:xs.length=2)(hk:BkS s):jg (s,(xs,(n,())))=some (true,()):=by
 obtain⟨top,meta',rfl⟩:∃a b,xs=[a,b]:=by
  match xs,hx with
  | [a,b],_=>exact⟨a,b,rfl⟩
 obtain⟨bf,e1,f1⟩:=UX s
 unfold jg
 dsimp only
 have w0:within (0:Int) 2=true:=rfl
 have w1:within (1:Int) 2=true:=rfl
 have i0:idx [top,meta'] (0:Int)=some top:=rfl
 have i1:idx [top,meta'] (1:Int)=some meta':=rfl
 simp only[w0,w1,ag,i0,i1,aa]
 rw[e1,aa]
 dsimp only
 rw[qK rfl,qK rfl]
 cases bf with
 | false =>
   rw[show(!(nt (!(nt (nt false))||aY (100:Int) (@len UInt8 top)))||aY (100:Int) (@len UInt8 meta'))=true from rfl,aK,af,aa]
   exact Mp fun q=>by cases q
 | true =>
 have hF:=f1 rfl
 have hB:=hF.bd hk
 obtain⟨bm,e2,f2⟩:=Ml s hB
 rw[qK (by rw[e2,aa])]
 refine Mp fun hc=>?_
 have hS:QV s:=f2.1 (by
  cases bm with
  | true=>rfl
  | false =>
    exfalso
    revert hc
    cases aY (100:Int) (len top)<;>cases aY (100:Int) (len meta')<;>simp[nt])
 have aa0:wR [uF]:=⟨by simp,fun x hx=>by rw[List.mem_singleton] at hx;subst hx;simp[uF]⟩
 rw[show([([(102:UInt8),(114:UInt8),(101:UInt8),(115:UInt8),(104:UInt8),(45:UInt8),(110:UInt8),(97:UInt8),(109:UInt8),(101:UInt8)]:List (UInt8))]:List (List (UInt8)))=[uF] from rfl,
  show([(102:UInt8),(114:UInt8),(101:UInt8),(115:UInt8),(104:UInt8),(45:UInt8),(110:UInt8),(97:UInt8),(109:UInt8),(101:UInt8)]:List (UInt8))=uF from rfl]
 rw[Eg s top [uF] meta' n hB.hd (by simp) (by have:=hB.il;omega),aa,Eh s top hB.hd hS.upI,aa]
 obtain⟨a1,a2,a3,a4⟩:=Vt hB hS top [uF] meta' n aa0
 obtain⟨b1,b2,b3⟩:=Vs hB hS top
 generalize crI s top [uF] meta' n=ra at a1 a2 a3 a4
 generalize ZT s top=rb at b1 b2 b3
 have acN:∀t:bW,QV t→NU t→mD (t,())=some (true,()):=fun t h1 h2=>by
  obtain⟨b,g1,g2⟩:=Ml t h2
  rw[g1,g2.2 h1]
 have pT:=Qq s hB (by have:=hF.acu;omega)
 rw[acN _ a1 a2,aa,qK (by rw[acN _ b1 b2,aa])]
 have n1:(ah (aj (nt (bC ra.2.1.1 (0:Int))) (ah (kg (ra.1,(s,()))) (fun(gv:Bool×Unit)=>some (nt gv.1))) (some false)) (fun(gv:Bool)=>some gv))=some false:=by
  by_cases q:ra.2.1.1=0
  ·rw[aR q];rfl
  ·rw[aN q,aF,ag,a3 q,pT];rfl
 have n2:(ah (aj (nt (bC rb.2.1.1 (0:Int))) (ah (kg (rb.1,(s,()))) (fun(fh:Bool×Unit)=>some (nt fh.1))) (some false)) (fun(fh:Bool)=>some fh))=some false:=by
  by_cases q:rb.2.1.1=0
  ·rw[aR q];rfl
  ·rw[aN q,aF,ag,b3 q,pT];rfl
 rw[qK n1,qK n2,show(!(nt (!(nt (!(nt (nt true))||nt true))||false))||false)=false from rfl,af]
 rw[yL ra.1 uF a2.hd,aa]
 obtain⟨g,QO,hg2⟩:=JP ra.1 ra.2.1.2.1 a2.hd
 rw[QO,aa]
 have key:ra.2.1.1=0→(ig (vQ ra.1) uF)=(ra.2.1.2.1,(0,()))∧g.2.1=true∧g.1.2.2.2.1=meta'∧g.1.2.2.2.2.1=[]:=fun q=>by
  obtain⟨x,x1,x2,x3,x4,x5,x6,x7,x8⟩:=a4 q
  have hxm:x∈ra.1.2.1:=by rw[x1];exact(Ef _).2 (.inl rfl)
  have hgx:=hg2 x hxm a1.upI x2
  refine⟨?_,by rw[hgx],by rw[hgx];exact x4,by rw[hgx];exact x5⟩
  rw[←x2]
  refine S7 (x:=(x.1,(x.2.1,()))) (HL hxm) (by rw[x3];exact List.mem_singleton.2 rfl) (fun y hy he=>?_) (fun y hy hn=>?_)
  ·obtain⟨z,hz,rfl⟩:=NW hy
   have:=(a1.i.il z hz).id.2
   rw[show z.1=uF from he] at this
   cases this
  ·obtain⟨z,hz,rfl⟩:=NW hy
   rw[x1] at hz
   rcases(Ef _).1 hz with rfl|hz
   ·rfl
   ·exact absurd (List.mem_singleton.2 rfl) (x8 z hz uF hn)
 by_cases q:ra.2.1.1=0
 ·obtain⟨k1,k2,k3,k4⟩:=key q
  rw[k1,aR q,k2,k3,k4]
  dsimp only
  rw[qM,qM,NK]
  rfl
 ·rw[aN q,NK]
  rfl
end Go.Ge
namespace Go.Ge
set_option linter.unusedSectionVars false
set_option linter.unusedVariables false
set_option linter.unusedSimpArgs false
abbrev NX:Ty:=.pair .str (.pair .str (.pair .str .unit))
abbrev Mq:Ty:=.pair .str (.pair (.slice .str) (.pair .str (.pair .str (.pair .str (.pair (.slice NX) .unit)))))
abbrev AR:Ty:=.pair .str (.pair (.slice .str) (.pair .str (.pair .str (.pair (.slice NX) .unit))))
abbrev AU:Ty:=.pair .str (.pair .str (.pair (.slice .str) (.pair .str (.pair (.int .i64) (.pair (.int .i64) (.pair .bool .unit))))))
abbrev TS:Ty:=.pair .str (.pair (.int .i64) .unit)
abbrev Zv:Ty:=.pair (.slice Mq) (.pair (.slice AR) (.pair (.slice AU) (.pair (.slice .str) (.pair (.slice TS) .unit))))
theorem JR{α:Type}{f:α→Nat}{l:List α}{x:α}(h:x∈l):f x≤sG f l:=by
 induction l with
 | nil=>cases h
 | cons a r ih =>
   unfold sG
   rcases List.mem_cons.1 h with rfl|h
   ·omega
   ·have:=ih h;omega
theorem aa1{s:bW}(h:Zv.bulk s≤1048576):BkS s:=by
 obtain⟨bo,im,la,di,mo,u⟩:=s
 have h':(sG Mq.bulk bo+1)+((sG AR.bulk im+1)+((sG AU.bulk la+1)+((sG Ty.str.bulk di+1)+((sG TS.bulk mo+1)+0))))≤1048576:=h
 refine⟨fun x hx=>?_,fun x hx=>?_,fun x hx=>?_⟩
 ·have h1:AR.bulk x≤sG AR.bulk im:=JR (f:=AR.bulk) hx
  have h2:AR.bulk x=(x.1.length+1)+((sG Ty.str.bulk x.2.1+1)+((x.2.2.1.length+1)+((x.2.2.2.1.length+1)+((sG NX.bulk x.2.2.2.2.1+1)+0)))):=rfl
  omega
 ·have h1:Mq.bulk x≤sG Mq.bulk bo:=JR (f:=Mq.bulk) hx
  have h2:Mq.bulk x=(x.1.length+1)+((sG Ty.str.bulk x.2.1+1)+((x.2.2.1.length+1)+((x.2.2.2.1.length+1)+((x.2.2.2.2.1.length+1)+((sG NX.bulk x.2.2.2.2.2.1+1)+0))))):=rfl
  omega
 ·have h1:AU.bulk x≤sG AU.bulk la:=JR (f:=AU.bulk) hx
  have h2:AU.bulk x=(x.1.length+1)+((x.2.1.length+1)+((sG Ty.str.bulk x.2.2.1+1)+((x.2.2.2.1.length+1)+(1+(1+(1+0)))))):=rfl
  omega
end Go.Ge
