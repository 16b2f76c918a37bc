/- Plain laws of what the functions compute: part 5. -/
import Derived.Test.YtjkmocnbjhpilaaGreatDoorPlD
import Derived.Test.YtjkmocnbjhpilaaGreatDoorGeI
namespace Go.Ge
set_option linter.unusedVariables false
set_option linter.unusedSimpArgs false
def yh(t:List Nd)(q:List UInt8):Option Nd:=t.find? fun x=>decide (x.1=q)
theorem OC(t:List Nd)(q:List UInt8):findF t q=match yh t q with
 | some x=>(x,(true,()))
 | none=>(Ox,(false,())):=rfl
theorem at_mem{t:List Nd}{q:List UInt8}{x:Nd}(h:yh t q=some x):x∈t∧x.1=q:=by
 unfold yh at h
 exact⟨List.mem_of_find?_eq_some h,by have:=List.find?_some h;simpa using this⟩
theorem qj{t:List Nd}(ho:Ord t){q:List UInt8}{x:Nd}:yh t q=some x↔x∈t∧x.1=q:=by
 constructor
 ·exact at_mem
 ·rintro⟨h1,h2⟩
  have:=gZ ho h1 h2
  rw[OC] at this
  cases ha:yh t q with
  | none=>rw[ha] at this;cases (Prod.mk.inj (Prod.mk.inj this).2).1
  | some y=>rw[ha] at this;rw[(Prod.mk.inj this).1]
theorem TV{t:List Nd}{q:List UInt8}:yh t q=none↔∀x∈t,x.1≠q:=by
 unfold yh
 rw[List.find?_eq_none]
 constructor
 ·intro h x hx e;exact h x hx (by simp[e])
 ·intro h x hx;simp[h x hx]
theorem OD{a b:Option Nd}(h:∀x,a=some x↔b=some x):a=b:=by
 cases a with
 | none =>
   cases b with
   | none=>rfl
   | some y=>exact absurd ((h y).2 rfl) (by simp)
 | some x=>exact((h x).1 rfl).symm
theorem P0:∀{l m:List Nd},(l.Pairwise fun x y=>cmpL (key x) (key y)<0)→(m.Pairwise fun x y=>cmpL (key x) (key y)<0)→(∀c,c∈l↔c∈m)→l=m:=by
 intro l
 induction l with
 | nil =>
   intro m _ _ h
   cases m with
   | nil=>rfl
   | cons d m=>exact absurd ((h d).2 (by simp)) (by simp)
 | cons c l ih =>
   intro m hl hm h
   cases m with
   | nil=>exact absurd ((h c).1 (by simp)) (by simp)
   | cons d m =>
     rw[List.pairwise_cons] at hl hm
     have Yw:∀x:Nd,¬cmpL (key x) (key x)<0:=fun x=>by rw[iK];omega
     have hcd:c=d:=by
      have h1:c=d∨c∈m:=by simpa using(h c).1 (by simp)
      have h2:d=c∨d∈l:=by simpa using(h d).2 (by simp)
      rcases h1 with e|h1
      ·exact e
      ·rcases h2 with e|h2
       ·exact e.symm
       ·exact absurd (kC (hl.1 d h2) (hm.1 c h1)) (Yw c)
     subst hcd
     rw[ih hl.2 hm.2 fun q=>?_]
     constructor
     ·intro hq
      rcases List.mem_cons.1 ((h q).1 (List.mem_cons_of_mem _ hq)) with e|e
      ·subst e;exact absurd (hl.1 q hq) (Yw q)
      ·exact e
     ·intro hq
      rcases List.mem_cons.1 ((h q).2 (List.mem_cons_of_mem _ hq)) with e|e
      ·subst e;exact absurd (hm.1 q hq) (Yw q)
      ·exact e
theorem Vp{s t:List Nd}(hs:Ord s)(ht:Ord t)(h:∀q,yh s q=yh t q):s=t :=
 P0 (rC.1 hs) (rC.1 ht) fun c=>by
  have a:=qj hs (q:=c.1) (x:=c)
  have b:=qj ht (q:=c.1) (x:=c)
  rw[h c.1] at a
  constructor
  ·intro hc;exact(b.1 (a.2 ⟨hc,rfl⟩)).1
  ·intro hc;exact(a.1 (b.2 ⟨hc,rfl⟩)).1
theorem oQ{l:List Nd}(hv:Valid l){p:List UInt8}(hp:p≠[]):∀(m:Nat) (x:Nd),x∈l→(parts x.1).length≤m→bM (parts x.1) (parts p)=true→∃y∈l,y.1=p∧y.2.1=2:=by
 intro m
 induction m with
 | zero =>
   intro x hx hm hu
   unfold bM at hu
   have:=(of_decide_eq_true hu).1
   omega
 | succ m ih =>
   intro x hx hm hu
   by_cases hex:∃y∈l,y.1=p
   ·by_cases h0:(aJ x.1).1=[]
    ·exfalso
     have VV:=hu
     unfold bM at VV
     have h1:=(of_decide_eq_true VV).1
     have hmay:=hv.may x hx
     unfold dK nN at hmay
     simp only[Bool.and_eq_true,decide_eq_true_eq] at hmay
     have hall:=hmay.1.1.1.1.1.1.1.2
     have hone:(parts x.1).length≤1:=by
      rcases iW x.1 with ⟨a,_⟩|⟨a,b,e1,e2,e⟩
      ·unfold parts
       split
       ·simp
       ·rw[kV _ a];simp
      ·rw[e] at h0
       have h0:a=[]:=h0
       subst h0
       have:gp []=true:=List.all_eq_true.1 hall [] (by
        unfold parts
        rw[e1,if_neg (by simp)]
        show []∈bS ([]++47::b)
        rw[zx [] (by simp)]
        simp)
       exact absurd this (by decide)
     have Ys:parts p=[]:=List.length_eq_zero_iff.1 (by omega)
     have:=bC p
     rw[Ys] at this
     exact hp this.symm
    ·rcases hv.up x hx with e|⟨y,hy,hy1,gU⟩
     ·exact absurd e h0
     ·have hk:=mo h0
      rw[←hy1] at hk
      unfold bM at hu
      obtain⟨h1,h2⟩:=of_decide_eq_true hu
      rw[hk] at h1 h2
      have hle:(parts p).length≤(parts y.1).length:=by simp at h1;omega
      rw[List.take_append_of_le_length hle] at h2
      rcases Nat.lt_or_ge (parts p).length (parts y.1).length with g|g
      ·exact ih y hy (by rw[hk] at hm;simp at hm;omega) (by unfold bM;exact decide_eq_true ⟨g,h2⟩)
      ·have he:parts p=parts y.1:=by rw[←h2,List.take_of_length_le (by omega)]
       exact⟨y,hy,by rw[←bC y.1,←he,bC],gU⟩
   ·have:=Fw hv hp (fun y hy e=>hex ⟨y,hy,e⟩) _ x hx (Nat.le_refl _)
    rw[this] at hu;cases hu
theorem OE{t:List Nd}{n:Nd}(h:(aX t n).2=0)(q:List UInt8) :
  yh (aX t n).1 q=if q=n.1 then some n else if bM (parts q) (parts n.1)=true∧n.2.1≠2 then none else yh t q:=by
 rcases zy t n with ⟨_,h2⟩|⟨h1,h2,h3,r,h4,h5,h6⟩
 ·exact absurd h h2
 have hvalid:=H8 h1 h2 h3 h4 h5
 have hne:=va h2
 rw[h6]
 dsimp only
 refine OD fun x=>?_
 rw[qj hvalid.ord,lN]
 obtain⟨hsub,_⟩:=h4.sub
 by_cases hq:q=n.1
 ·rw[if_pos hq]
  constructor
  ·rintro⟨e|hx,hx1⟩
   ·rw[e]
   ·exact absurd (hx1.trans hq) (hsub x hx).2
  ·intro e
   obtain rfl:=Option.some.inj e
   exact⟨.inl rfl,hq.symm⟩
 ·rw[if_neg hq]
  have hin:(x=n∨x∈r)∧x.1=q↔x∈r∧x.1=q:=by
   constructor
   ·rintro⟨e|hx,hx1⟩
    ·subst e;exact absurd hx1.symm hq
    ·exact⟨hx,hx1⟩
   ·rintro⟨hx,hx1⟩;exact⟨.inr hx,hx1⟩
  rw[hin]
  rcases h4 with ⟨⟨⟨d,hd,hd1,YS⟩,hn2⟩,rfl⟩|⟨hno,rfl⟩
  ·rw[if_neg (fun z=>z.2 hn2),qj h1.ord,List.mem_filter]
   constructor
   ·rintro⟨⟨a,_⟩,b⟩;exact⟨a,b⟩
   ·rintro⟨a,b⟩;exact⟨⟨a,by simp only[Bool.not_eq_true',decide_eq_false_iff_not];rw[b];exact hq⟩,b⟩
  ·unfold jP
   rw[List.mem_filter]
   by_cases hu:bM (parts q) (parts n.1)=true
   ·by_cases hk:n.2.1=2
    ·rw[if_neg (fun z=>z.2 hk),qj h1.ord]
     constructor
     ·rintro⟨⟨a,b⟩,c⟩;exact⟨a,c⟩
     ·rintro⟨a,c⟩
      exfalso
      have:=oQ h1 hne _ x a (Nat.le_refl _) (by rw[c];exact hu)
      exact hno ⟨this,hk⟩
    ·rw[if_pos ⟨hu,hk⟩]
     constructor
     ·rintro⟨⟨a,b⟩,c⟩
      unfold gone at b
      rw[c,hu] at b
      simp at b
     ·intro e;cases e
   ·rw[if_neg (fun z=>hu z.1),qj h1.ord]
    constructor
    ·rintro⟨⟨a,b⟩,c⟩;exact⟨a,c⟩
    ·rintro⟨a,c⟩
     refine⟨⟨a,?_⟩,c⟩
     unfold gone
     rw[c,decide_eq_false hq,show bM (parts q) (parts n.1)=false by simpa using hu];rfl
def FP(q:List UInt8)(s:Option Nd):Option Nd:=match s with
 | some x=>if x.2.1=2 then some x else some (ew 493 q)
 | none=>some (ew 493 q)
theorem LJ{t:List Nd}(p:List UInt8):((findF t p).2.1=true∧(findF t p).1.2.1=2)↔∃x,yh t p=some x∧x.2.1=2:=by
 rw[OC]
 cases yh t p with
 | none=>simp
 | some x=>simp
theorem Sl{ns:List (List UInt8)}(h:B4 ns){i j:Nat}(hi:i<ns.length)(hj:j<ns.length)(e:cA ns i=cA ns j):i=j:=by
 have:=congrArg (fun p=>(parts p).length) e
 simp only[sn h,List.length_take] at this
 omega
theorem TW{ns:List (List UInt8)}(h:B4 ns)(n:Nat)(hn:n≤ns.length)(q:List UInt8):∀(d i:Nat) (t:List Nd),i+d=n→Valid t →
  (fW ((ns.take n).drop i) (az (ns.take i)) t).2=0 →
  ((∃j,i≤j∧j<n∧q=cA ns j)→yh (fW ((ns.take n).drop i) (az (ns.take i)) t).1 q=FP q (yh t q)) ∧
  ((¬∃j,i≤j∧j<n∧q=cA ns j)→yh (fW ((ns.take n).drop i) (az (ns.take i)) t).1 q=yh t q):=by
 intro d
 induction d with
 | zero =>
   intro i t hi hv _
   obtain rfl:i=n:=by omega
   rw[List.drop_of_length_le (by rw[List.length_take];omega)]
   exact⟨fun⟨j,a,b,_⟩=>absurd a (by omega),fun _=>rfl⟩
 | succ d ih =>
   intro i t hi hv h0
   have hx:ns[i]?=some ns[i]:=List.getElem?_eq_getElem (by omega)
   have LF:(ns.take n).drop i=ns[i]::(ns.take n).drop (i+1):=by
    rw[List.drop_eq_getElem_cons (by rw[List.length_take];omega),List.getElem_take]
   have hj:=mu h hx
   have Gk:cA ns i=az (ns.take (i+1)):=rfl
   rw[LF] at h0⊢
   unfold fW at h0⊢
   rw[hj] at h0⊢
   have cases':(∃j,i≤j∧j<n∧q=cA ns j)↔(q=cA ns i∨∃j,i+1≤j∧j<n∧q=cA ns j):=by
    constructor
    ·rintro⟨j,a,b,c⟩
     by_cases e:j=i
     ·subst e;exact .inl c
     ·exact .inr ⟨j,by omega,b,c⟩
    ·rintro(c|⟨j,a,b,c⟩)
     ·exact⟨i,Nat.le_refl _,by omega,c⟩
     ·exact⟨j,by omega,b,c⟩
   have apart:q=cA ns i→¬∃j,i+1≤j∧j<n∧q=cA ns j:=by
    rintro e ⟨j,a,b,c⟩
    have:=Sl h (by omega) (by omega) (e.symm.trans c)
    omega
   by_cases hc:(findF t (cA ns i)).2.1=true∧(findF t (cA ns i)).1.2.1=2
   ·rw[if_pos hc] at h0⊢
    rw[Gk] at h0⊢
    obtain⟨k1,k2⟩:=ih (i+1) t (by omega) hv h0
    rw[cases']
    obtain⟨x,x1,x2⟩:=(LJ _).1 hc
    constructor
    ·rintro(e|e)
     ·rw[k2 (apart e),e,x1]
      unfold FP
      simp only[if_pos x2]
     ·exact k1 e
    ·intro e
     exact k2 fun z=>e (.inr z)
   ·rw[if_neg hc] at h0⊢
    by_cases hp:(aX t (ew 493 (cA ns i))).2=0
    ·rw[if_pos hp] at h0⊢
     rw[Gk] at h0⊢
     obtain⟨k1,k2⟩:=ih (i+1) _ (by omega) (su hp) h0
     have hput:=OE hp q
     rw[←Gk] at k1 k2
     rw[cases']
     have hk2:¬(ew 493 (cA ns i)).2.1≠2:=fun z=>z rfl
     rw[if_neg (fun z:bM (parts q) (parts (ew 493 (cA ns i)).1)=true∧(ew 493 (cA ns i)).2.1≠2=>hk2 z.2)] at hput
     constructor
     ·rintro(e|e)
      ·rw[if_pos (show q=(ew 493 (cA ns i)).1 from e)] at hput
       rw[←Gk,k2 (apart e),hput]
       unfold FP
       rw[LJ] at hc
       cases ha:yh t q with
       | none=>dsimp only;rw[e]
       | some x =>
         dsimp only
         rw[if_neg (fun z=>hc ⟨x,by rw[←e];exact ha,z⟩),e]
      ·rw[if_neg (fun z:q=(ew 493 (cA ns i)).1=>apart z e)] at hput
       rw[←Gk,k1 e,hput]
     ·intro e
      rw[if_neg (fun z:q=(ew 493 (cA ns i)).1=>e (.inl z))] at hput
      rw[←Gk,k2 fun z=>e (.inr z),hput]
    ·rw[if_neg hp] at h0
     exact absurd h0 hp
def LK(ns:List (List UInt8))(n:Nd)(q:List UInt8)(s:Option Nd):Option Nd :=
 if q=n.1 then some n else if bM (parts q) ns=true∧n.2.1≠2 then none else if bM ns (parts q)=true∧q≠[] then FP q s else s
theorem B8{ns:List (List UInt8)}(h:B4 ns)(q:List UInt8):(∃j,0≤j∧j<ns.length-1∧q=cA ns j)↔(bM ns (parts q)=true∧q≠[]):=by
 constructor
 ·rintro⟨j,_,hj,rfl⟩
  rw[sn h]
  constructor
  ·unfold bM
   refine decide_eq_true ⟨?_,?_⟩
   ·rw[List.length_take];omega
   ·rw[List.length_take,Nat.min_eq_left (by omega)]
  ·intro e
   have:=congrArg (fun p=>(parts p).length) e
   simp only[sn h,List.length_take,show(parts []).length=0 from rfl] at this
   omega
 ·rintro⟨hu,hq⟩
  unfold bM at hu
  obtain⟨h1,h2⟩:=of_decide_eq_true hu
  have hpos:0<(parts q).length:=by
   apply Nat.pos_of_ne_zero
   intro e
   have:=bC q
   rw[List.length_eq_zero_iff.1 e] at this
   exact hq this.symm
  refine⟨(parts q).length-1,Nat.zero_le _,by omega,?_⟩
  unfold cA
  rw[show(parts q).length-1+1=(parts q).length by omega,h2,bC]
theorem TX{ns:List (List UInt8)}(h:B4 ns){t:List Nd}(hv:Valid t){n:Nd}(hn:n.1=az ns)(h0:(ob ns t n).2=0)(q:List UInt8):yh (ob ns t n).1 q=LK ns n q (yh t q):=by
 have hlt:ns.take (ns.length-1)=ns.dropLast:=List.dropLast_eq_take.symm
 have Qi:az (ns.take 0)=[]:=by simp[az]
 unfold ob at h0⊢
 by_cases hd:(fW ns.dropLast [] t).2=0
 ·rw[if_pos hd] at h0⊢
  have hda:=TW h (ns.length-1) (by omega) q (ns.length-1) 0 t (by omega) hv (by rw[List.drop_zero,hlt,Qi];exact hd)
  rw[List.drop_zero,hlt,Qi,B8 h] at hda
  rw[OE h0 q,hn,eR ns h]
  unfold LK
  rw[hn]
  by_cases h1:q=az ns
  ·rw[if_pos h1,if_pos h1]
  ·rw[if_neg h1,if_neg h1]
   by_cases h2:bM (parts q) ns=true∧n.2.1≠2
   ·rw[if_pos h2,if_pos h2]
   ·rw[if_neg h2,if_neg h2]
    by_cases h3:bM ns (parts q)=true∧q≠[]
    ·rw[if_pos h3,hda.1 h3]
    ·rw[if_neg h3,hda.2 h3]
 ·rw[if_neg hd] at h0
  exact absurd h0 hd
def zC(q:List UInt8)(s:Option Nd)(p:Pt):Option Nd:=if(bu p).1=0∧(bu p).2.1≠[] then LK (bu p).2.1 (gq p (az (bu p).2.1)) q s else s
def vV(q:List UInt8)(p:Pt):Bool:=(decide ((bu p).1=1)&&(decide (q=az (bu p).2.1)||bM (parts q) (bu p).2.1))||(decide ((bu p).1=2)&&bM (parts q) (bu p).2.1)
def FQ(q:List UInt8)(ps:List Pt)(s:Option Nd):Option Nd:=if ps.any (vV q)=true then none else s
theorem Vq:∀(ps:List Pt) (t:List Nd),Valid t→(ve ps t).2=0→∀q,yh (ve ps t).1 q=ps.foldl (zC q) (yh t q):=by
 intro ps
 induction ps with
 | nil=>intro t _ _ q;rfl
 | cons p r ih =>
   intro t hv h0 q
   unfold ve at h0⊢
   by_cases hp:(jQ t p).2=0
   ·rw[if_pos hp] at h0⊢
    rw[ih _ (sV hv hp) h0 q,List.foldl_cons]
    congr 1
    unfold jQ zC at *
    by_cases hc:(bu p).1=0∧(bu p).2.1≠[]
    ·rw[if_pos hc] at hp⊢
     rw[if_pos hc]
     exact TX (p8 p).1 hv rfl hp q
    ·rw[if_neg hc,if_neg hc]
   ·rw[if_neg hp] at h0
    exact absurd h0 hp
theorem Vr{t:List Nd}(hv:Valid t)(p:Pt)(q:List UInt8):yh (p9 t p) q=if vV q p=true then none else yh t q:=by
 have hvt:=sr hv p
 have hsh:=p8 p
 have TJ:parts (az (bu p).2.1)=(bu p).2.1:=eR _ hsh.1
 refine OD fun x=>?_
 rw[qj hvt.ord]
 have key:∀P:Nd→Bool,(∀x,x.1=q→P x=!vV q p)→((x∈t.filter P∧x.1=q)↔(if vV q p=true then none else yh t q)=some x):=by
  intro P hP
  rw[List.mem_filter]
  by_cases hb:vV q p=true
  ·rw[if_pos hb]
   constructor
   ·rintro⟨⟨_,a⟩,b⟩
    rw[hP x b,hb] at a;cases a
   ·intro e;cases e
  ·rw[if_neg hb,qj hv.ord]
   constructor
   ·rintro⟨⟨a,_⟩,b⟩;exact⟨a,b⟩
   ·rintro⟨a,b⟩;exact⟨⟨a,by rw[hP x b];simpa using hb⟩,b⟩
 unfold p9
 by_cases h1:(bu p).1=1
 ·rw[if_pos h1]
  refine key _ fun y hy=>?_
  unfold gone vV
  rw[hy,TJ,h1];simp
 ·rw[if_neg h1]
  by_cases h2:(bu p).1=2
  ·rw[if_pos h2]
   refine key _ fun y hy=>?_
   unfold vV
   rw[hy,TJ,h2];simp
  ·rw[if_neg h2]
   have hb:vV q p=false:=by unfold vV;rw[decide_eq_false h1,decide_eq_false h2];rfl
   rw[if_neg (by rw[hb];decide),qj hv.ord]
theorem Ie:∀(ps:List Pt) (t:List Nd),Valid t→∀q,yh (ps.foldl p9 t) q=FQ q ps (yh t q):=by
 intro ps
 induction ps with
 | nil=>intro t _ q;rfl
 | cons p r ih =>
   intro t hv q
   rw[List.foldl_cons,ih _ (sr hv p) q,Vr hv p q]
   unfold FQ
   rw[List.any_cons]
   cases vV q p with
   | false=>rfl
   | true =>
     rw[if_pos rfl]
     simp
theorem Vs{l:List Nd}(hv:Valid l){ps:List Pt}(ha:so ps=true)(h0:(vU l ps).2=0):Valid (vU l ps).1∧∀q,yh (vU l ps).1 q=ps.foldl (zC q) (FQ q ps (yh l q)):=by
 have hl:vU l ps=ve ps (ps.foldl p9 l):=by unfold vU;rw[if_pos hv,if_pos ha]
 rw[hl] at h0⊢
 have hf:=xd ps l hv
 refine⟨?_,fun q=>?_⟩
 ·rcases zB ps _ hf with ⟨_,h⟩|⟨h,_⟩
  ·exact h
  ·exact absurd h0 h
 ·rw[Vq ps _ hf h0 q,Ie ps l hv q]
end Go.Ge
namespace Go.Ge
set_option linter.unusedVariables false
set_option linter.unusedSimpArgs false
theorem NR(p:Pt):parts (az (bu p).2.1)=(bu p).2.1:=eR _ (p8 p).1
end Go.Ge
namespace Go.Ge
set_option linter.unusedVariables false
set_option linter.unusedSimpArgs false
def JA(q:List UInt8)(f:Option Nd→Option Nd):Prop:=(∃c,∀s,f s=c)∨(∀s,f s=FP q s)∨(∀s,f s=s)
theorem P1(q:List UInt8)(s:Option Nd):FP q (FP q s)=FP q s:=by
 cases s with
 | none=>rfl
 | some x =>
   show FP q (if x.2.1=2 then some x else some (ew 493 q))=if x.2.1=2 then some x else some (ew 493 q)
   by_cases h:x.2.1=2
   ·rw[if_pos h]
    show(if x.2.1=2 then some x else some (ew 493 q))=_
    rw[if_pos h]
   ·rw[if_neg h];rfl
theorem JA.comp{q:List UInt8}{f g:Option Nd→Option Nd}(hf:JA q f)(hg:JA q g):JA q (fun s=>f (g s)):=by
 rcases hf with ⟨c,hc⟩|hf|hf
 ·exact .inl ⟨c,fun s=>hc _⟩
 ·rcases hg with ⟨c,hc⟩|hg|hg
  ·exact .inl ⟨FP q c,fun s=>by show f (g s)=_;rw[hf,hc]⟩
  ·exact .inr (.inl fun s=>by show f (g s)=_;rw[hf,hg,P1])
  ·exact .inr (.inl fun s=>by show f (g s)=_;rw[hf,hg])
 ·rcases hg with ⟨c,hc⟩|hg|hg
  ·exact .inl ⟨c,fun s=>by show f (g s)=_;rw[hf,hc]⟩
  ·exact .inr (.inl fun s=>by show f (g s)=_;rw[hf,hg])
  ·exact .inr (.inr fun s=>by show f (g s)=_;rw[hf,hg])
end Go.Ge
namespace Go.Ge
set_option linter.unusedVariables false
set_option linter.unusedSimpArgs false
abbrev Dl:=Int×List UInt8×Unit
def rD:List Nd→List Nd→List Dl
 | [],[]=>[]
 | x::a,[]=>(3,(x.1,()))::rD a []
 | [],y::b=>(1,(y.1,()))::rD [] b
 | x::a,y::b =>
   if cmpL (key x) (key y)<0 then(3,(x.1,()))::rD a (y::b)
   else if 0<cmpL (key x) (key y) then(1,(y.1,()))::rD (x::a) b
   else(if x=y then [] else [(2,(x.1,()))])++rD a b
 termination_by a b=>a.length+b.length
theorem JB:∀(n:Nat) (a b:List Nd),a.length+b.length≤n→(rD a b).length≤a.length+b.length:=by
 intro n
 induction n with
 | zero =>
   intro a b h
   obtain rfl:=List.length_eq_zero_iff.1 (show a.length=0 by omega)
   obtain rfl:=List.length_eq_zero_iff.1 (show b.length=0 by omega)
   simp[rD]
 | succ n ih =>
   intro a b h
   cases a with
   | nil =>
     cases b with
     | nil=>simp[rD]
     | cons y b =>
       rw[rD]
       have:=ih [] b (by simp at h⊢;omega)
       simp at this⊢;omega
   | cons x a =>
     cases b with
     | nil =>
       rw[rD]
       have:=ih a [] (by simp at h⊢;omega)
       simp at this⊢;omega
     | cons y b =>
       rw[rD]
       split
       ·have:=ih a (y::b) (by simp at h⊢;omega)
        simp at this⊢;omega
       ·split
        ·have:=ih (x::a) b (by simp at h⊢;omega)
         simp at this⊢;omega
        ·have:=ih a b (by simp at h⊢;omega)
         rw[List.length_append]
         split<;>simp<;>omega
theorem AW{α:Type}(x:α)(r:List α):sub (x::r) 1 (minus (len (x::r)) 1)=r:=pZ (x::r) 1 (by simp)
def uB(a b:List Nd):Int:=match a,b with
 | [],_=>1
 | _::_,[]=>-1
 | x::_,y::_=>cmpL (key x) (key y)
theorem Sn(a b:List Nd)(ha:mM a)(hb:mM b) :
  (ah (au (bp (len a) 0) (some (((1:Int),()),())) (ah (au (bp (len b) 0) (some (((-1:Int),()),())) (ah (idx a 0) (fun(y4:Nd)=>ah (idx b 0) (fun(y5:Nd)=>ah (e9 (y4.1,(y5.1,()))) (fun(y6:Int×Unit)=>some ((y6.1,()),())))))) (fun(y4:(Int×Unit)×Unit)=>some ((y4.1.1,()),())))) fun(y:(Int×Unit)×Unit)=>some y)=some ((uB a b,()),()):=by
 cases a with
 | nil=>rfl
 | cons x a =>
   have h0:bp (len (x::a)) 0=false:=by unfold bp len;exact decide_eq_false (by simp;omega)
   rw[h0,ag]
   cases b with
   | nil=>rfl
   | cons y b =>
     have h1:bp (len (y::b)) 0=false:=by unfold bp len;exact decide_eq_false (by simp;omega)
     rw[h1,ag,show idx (x::a) 0=some x from rfl,show idx (y::b) 0=some y from rfl,aa,aa,wT _ _ (by have:=(ha.2 x (by simp)).1;omega) (by have:=(hb.2 y (by simp)).1;omega)]
     rfl
def FR(a b:List Nd):List Dl:=match a,b with
 | x::_,y::_=>if x=y then [] else [(2,(x.1,()))]
 | _,_=>[]
theorem P2(a b:List Nd):(FR a b).length≤1:=by
 unfold FR
 split
 ·split<;>simp
 ·simp
theorem JC(a b:List Nd)(acc:List Dl)(ha:mM a)(hb:mM b)(hne:a≠[]∨b≠[])(hf:∀c:Dl,fits (plus (len acc) (len [c]))=true) :
  fU ((a,(b,())),((),((),(acc,()))))=some (.inl (
   if uB a b<0 then((a.drop 1,(b,())),((),((),(acc++(a.take 1).map (fun x=>(3,(x.1,()))),()))))
   else if 0<uB a b then((a,(b.drop 1,())),((),((),(acc++(b.take 1).map (fun y=>(1,(y.1,()))),()))))
   else((a.drop 1,(b.drop 1,())),((),((),(acc++FR a b,())))))):=by
 have e1:au (nt (cm 0 (len a))) (cm 0 (len b)) true=true:=by
  rw[K2,K2]
  cases a with
  | cons x a=>simp[au,nt]
  | nil =>
    cases b with
    | cons y b=>simp[au,nt]
    | nil=>simp at hne
 have e2:=Sn a b ha hb
 have e3:∀o:Option ((Int×Unit)×Unit),ah o (fun y=>some y)=o:=fun o=>by cases o<;>rfl
 rw[e3] at e2
 unfold fU
 dsimp only
 rw[e1,af,e2,aa]
 dsimp only
 have hin:∀{x:Nd} {r:List Nd},inside 1 (len (x::r)) (len (x::r))=true:=fun {x r}=>bA (by omega) (by unfold len;simp;omega) (Int.le_refl _)
 by_cases h1:uB a b<0
 ·rw[if_pos h1,cH h1,af,eF (by omega),af,kT h1,ag]
  cases a with
  | nil=>simp[uB] at h1
  | cons x a =>
    rw[show idx (x::a) 0=some x from rfl,aa,hf,af,hin,af,AW]
    rfl
 ·rw[if_neg h1,bq (by omega),ag]
  by_cases h2:0<uB a b
  ·rw[if_pos h2,cH h2,af,kT (by omega),ag,eF (by omega),af]
   cases b with
   | nil=>cases a<;>simp[uB] at h2 hne
   | cons y b =>
     rw[show idx (y::b) 0=some y from rfl,aa,hf,af,hin,af,AW]
     rfl
  ·rw[if_neg h2,bq (by omega),ag,eF (by omega),af,eF (by omega),af]
   cases a with
   | nil=>simp[uB] at h2
   | cons x a =>
     cases b with
     | nil=>simp[uB] at h1
     | cons y b =>
       have hq:an (bZ x.1 y.1) (an (bp x.2.1 y.2.1) (an (bp x.2.2.1 y.2.2.1) (an (bZ x.2.2.2.1 y.2.2.2.1) (an (bZ x.2.2.2.2.1 y.2.2.2.2.1) true))))=decide (x=y):=by
        obtain⟨x1,x2,x3,x4,x5,x6⟩:=x
        obtain⟨y1,y2,y3,y4,y5,y6⟩:=y
        unfold an bZ bp
        rw[Bool.eq_iff_iff]
        simp
       rw[show idx (x::a) 0=some x from rfl,show idx (y::b) 0=some y from rfl,aa,aa,hq,hf,hin,hin,AW,AW]
       by_cases e:x=y
       ·rw[decide_eq_true e,aT,ag]
        unfold FR
        dsimp only
        rw[if_pos e,List.append_nil]
        rfl
       ·rw[decide_eq_false e,aO,af]
        unfold FR
        dsimp only
        rw[if_neg e]
        rfl
theorem So(a b:List Nd)(hne:a≠[]∨b≠[]):rD a b =
  if uB a b<0 then(a.take 1).map (fun x=>((3,(x.1,())):Dl))++rD (a.drop 1) b
  else if 0<uB a b then(b.take 1).map (fun y=>((1,(y.1,())):Dl))++rD a (b.drop 1)
  else FR a b++rD (a.drop 1) (b.drop 1):=by
 cases a with
 | nil =>
   cases b with
   | nil=>simp at hne
   | cons y b=>rw[rD,if_neg (by simp[uB]),if_pos (by simp[uB])];rfl
 | cons x a =>
   cases b with
   | nil=>rw[rD,if_pos (by simp[uB])];rfl
   | cons y b =>
     rw[rD]
     show _=if cmpL (key x) (key y)<0 then _ else if 0<cmpL (key x) (key y) then _ else _
     split
     ·rfl
     ·split
      ·rfl
      ·rfl
theorem mM.drop{l:List Nd}(h:mM l)(k:Nat):mM (l.drop k):=⟨by rw[List.length_drop];have:=h.1;omega,fun x hx=>h.2 x (List.mem_of_mem_drop hx)⟩
theorem JD:∀(n:Nat) (a b:List Nd) (acc:List Dl),a.length+b.length≤n→mM a→mM b→acc.length+a.length+b.length≤100000 →
  ∃s,Loop fU ((a,(b,())),((),((),(acc,()))))=some (s,((),((),(acc++rD a b,())))):=by
 have fin:∀acc:List Dl,fU (([],([],())),((),((),(acc,()))))=some (.inr (([],([],())),((),((),(acc,()))))):=fun acc=>rfl
 intro n
 induction n with
 | zero =>
   intro a b acc h _ _ _
   obtain rfl:=List.length_eq_zero_iff.1 (show a.length=0 by omega)
   obtain rfl:=List.length_eq_zero_iff.1 (show b.length=0 by omega)
   refine⟨([],([],())),?_⟩
   rw[bH,fin,rD,List.append_nil]
   rfl
 | succ n ih =>
   intro a b acc h ha hb hacc
   by_cases hne:a≠[]∨b≠[]
   ·have hst:=JC a b acc ha hb hne (fun c=>bw (by simp;omega))
    rw[bH,hst,So a b hne]
    have hda:a≠[]→(a.drop 1).length=a.length-1∧0<a.length:=fun h=>⟨by simp,List.length_pos_iff.2 h⟩
    have hdb:b≠[]→(b.drop 1).length=b.length-1∧0<b.length:=fun h=>⟨by simp,List.length_pos_iff.2 h⟩
    by_cases h1:uB a b<0
    ·have TY:a≠[]:=fun e=>by subst e;simp[uB] at h1
     have:=hda TY
     obtain⟨s,hs⟩:=ih (a.drop 1) b (acc++(a.take 1).map (fun x=>(3,(x.1,())))) (by omega) (ha.drop 1) hb (by simp at this⊢;omega)
     refine⟨s,?_⟩
     rw[if_pos h1,if_pos h1,←List.append_assoc]
     exact hs
    ·by_cases h2:0<uB a b
     ·have Vt:b≠[]:=fun e=>by subst e;cases a<;>simp[uB] at h2 hne
      have:=hdb Vt
      obtain⟨s,hs⟩:=ih a (b.drop 1) (acc++(b.take 1).map (fun y=>(1,(y.1,())))) (by omega) ha (hb.drop 1) (by simp at this⊢;omega)
      refine⟨s,?_⟩
      rw[if_neg h1,if_neg h1,if_pos h2,if_pos h2,←List.append_assoc]
      exact hs
     ·have TY:a≠[]:=fun e=>by subst e;simp[uB] at h2
      have Vt:b≠[]:=fun e=>by subst e;cases a<;>simp[uB] at h1 TY
      have g1:=hda TY
      have g2:=hdb Vt
      obtain⟨s,hs⟩:=ih (a.drop 1) (b.drop 1) (acc++FR a b) (by omega) (ha.drop 1) (hb.drop 1) (by
       have:=P2 a b
       rw[List.length_append]
       omega)
      refine⟨s,?_⟩
      rw[if_neg h1,if_neg h1,if_neg h2,if_neg h2,←List.append_assoc]
      exact hs
   ·have:a=[]∧b=[]:=by
     cases a with
     | nil=>cases b with
       | nil=>exact⟨rfl,rfl⟩
       | cons y b=>simp at hne
     | cons x a=>simp at hne
    obtain⟨rfl,rfl⟩:=this
    refine⟨([],([],())),?_⟩
    rw[bH,fin,rD,List.append_nil]
    rfl
end Go.Ge
namespace Go.Ge
set_option linter.unusedVariables false
set_option linter.unusedSimpArgs false
open Classical in
noncomputable def P3(a b:List Nd):List Dl×Int:=if Valid a∧Valid b then(rD a b,0) else([],1)
theorem CW(a b:List Nd)(ha:mM a)(hb:mM b):jt (a,(b,()))=some ((P3 a b).1,((P3 a b).2,())):=by
 obtain⟨e,c1,c2⟩:=jf a ha
 obtain⟨f,d1,d2⟩:=jf b hb
 unfold jt
 dsimp only
 rw[c1,aa,d1]
 simp only[aa]
 by_cases hv:Valid a∧Valid b
 ·obtain rfl:=c2.2 hv.1
  obtain rfl:=d2.2 hv.2
  have h:=ha.1
  have h2:=hb.1
  obtain⟨s,hs⟩:=JD (a.length+b.length) a b [] (Nat.le_refl _) ha hb (by simp;omega)
  rw[show(au (nt (nt (bp 0 0))) (some (nt (bp 0 0))) (some true):Option Bool)=some false from rfl,aa,ag,hs,aa]
  unfold P3
  rw[if_pos hv,List.nil_append]
 ·have hh:(au (nt (nt (bp e 0))) (some (nt (bp f 0))) (some true):Option Bool)=some true:=by
   by_cases h1:e=0
   ·by_cases h2:f=0
    ·exact absurd ⟨c2.1 h1,d2.1 h2⟩ hv
    ·rw[show bp f 0=false by simp[bp,h2]]
     cases nt (nt (bp e 0))<;>rfl
   ·rw[show bp e 0=false by simp[bp,h1]];rfl
  rw[hh,aa,af]
  unfold P3
  rw[if_neg hv]
end Go.Ge
namespace Go.Ge
set_option linter.unusedVariables false
set_option linter.unusedSimpArgs false
def Zi(x y:Dl):Prop:=cmpL (parts x.2.1) (parts y.2.1)<0
instance Yx (x y:Dl):Decidable (Zi x y):=inferInstanceAs (Decidable (cmpL (parts x.2.1) (parts y.2.1)<0))
def Vu(l:List Dl):Prop:=l.Pairwise Zi
def Qm(a b:List Nd)(c:Dl):Prop :=
 (c.1=3∧∃x∈a,x.1=c.2.1∧∀y∈b,y.1≠x.1)∨(c.1=1∧∃y∈b,y.1=c.2.1∧∀x∈a,x.1≠y.1)∨(c.1=2∧∃x∈a,∃y∈b,x.1=y.1∧x≠y∧x.1=c.2.1)
theorem Qm.path{a b:List Nd}{c:Dl}(h:Qm a b c):(∃x∈a,x.1=c.2.1)∨∃y∈b,y.1=c.2.1:=by
 rcases h with ⟨_,x,hx,e,_⟩|⟨_,y,hy,e,_⟩|⟨_,x,hx,_,_,_,_,e⟩
 ·exact .inl ⟨x,hx,e⟩
 ·exact .inr ⟨y,hy,e⟩
 ·exact .inl ⟨x,hx,e⟩
def PO(l:List Nd):Prop:=l.Pairwise fun x y=>cmpL (key x) (key y)<0
theorem tE{x y:Nd}(h:cmpL (key x) (key y)<0):x.1≠y.1:=fun e=>by
 unfold key at h
 rw[e,iK] at h
 omega
theorem Vv{x y:Nd}(h1:¬cmpL (key x) (key y)<0)(h2:¬0<cmpL (key x) (key y)):x.1=y.1:=by
 have:=HR (show cmpL (key x) (key y)=0 by omega)
 unfold key at this
 rw[←bC x.1,this,bC]
theorem Sp:∀(n:Nat) (a b:List Nd),a.length+b.length≤n→PO a→PO b→Vu (rD a b)∧∀c,c∈rD a b↔Qm a b c:=by
 have ahead:∀{a b:List Nd} {k:Int} {p:List UInt8} {r:List Dl},Vu r→(∀c,c∈r↔Qm a b c)→(∀x∈a,cmpL (parts p) (key x)<0)→(∀y∈b,cmpL (parts p) (key y)<0)→Vu (((k,(p,())):Dl)::r):=by
  intro a b k p r hr hm h1 h2
  refine List.pairwise_cons.2 ⟨fun c hc=>?_,hr⟩
  show cmpL (parts p) (parts c.2.1)<0
  rcases((hm c).1 hc).path with ⟨x,hx,e⟩|⟨y,hy,e⟩
  ·rw[←e];exact h1 x hx
  ·rw[←e];exact h2 y hy
 intro n
 induction n with
 | zero =>
   intro a b h _ _
   obtain rfl:=List.length_eq_zero_iff.1 (show a.length=0 by omega)
   obtain rfl:=List.length_eq_zero_iff.1 (show b.length=0 by omega)
   rw[rD]
   exact⟨List.Pairwise.nil,fun c=>by simp[Qm]⟩
 | succ n ih =>
   intro a b h ha hb
   cases a with
   | nil =>
     cases b with
     | nil=>rw[rD];exact⟨List.Pairwise.nil,fun c=>by simp[Qm]⟩
     | cons y b =>
       have hb':=List.pairwise_cons.1 hb
       obtain⟨i1,i2⟩:=ih [] b (by simp at h⊢;omega) ha hb'.2
       rw[rD]
       refine⟨ahead i1 i2 (fun x hx=>by cases hx) hb'.1,fun c=>?_⟩
       rw[List.mem_cons,i2]
       obtain⟨c1,c2,u⟩:=c
       simp only[Qm,List.mem_cons,List.not_mem_nil,false_and,exists_false,and_false,or_false,false_or,Prod.mk.injEq,forall_const,false_implies,implies_true,and_true,exists_eq_or_imp]
       constructor
       ·rintro(⟨rfl,rfl⟩|⟨rfl,y2,gU,rfl⟩)
        ·exact⟨rfl,.inl rfl⟩
        ·exact⟨rfl,.inr ⟨y2,gU,rfl⟩⟩
       ·rintro⟨rfl,rfl|⟨y2,gU,rfl⟩⟩
        ·exact .inl ⟨rfl,rfl⟩
        ·exact .inr ⟨rfl,y2,gU,rfl⟩
   | cons x a =>
     have Ut:=List.pairwise_cons.1 ha
     cases b with
     | nil =>
       obtain⟨i1,i2⟩:=ih a [] (by simp at h⊢;omega) Ut.2 hb
       rw[rD]
       refine⟨ahead i1 i2 Ut.1 (fun x hx=>by cases hx),fun c=>?_⟩
       rw[List.mem_cons,i2]
       obtain⟨c1,c2,u⟩:=c
       simp only[Qm,List.mem_cons,List.not_mem_nil,false_and,exists_false,and_false,or_false,false_or,Prod.mk.injEq,forall_const,false_implies,implies_true,and_true,exists_eq_or_imp]
       constructor
       ·rintro(⟨rfl,rfl⟩|⟨rfl,y2,gU,rfl⟩)
        ·exact⟨rfl,.inl rfl⟩
        ·exact⟨rfl,.inr ⟨y2,gU,rfl⟩⟩
       ·rintro⟨rfl,rfl|⟨y2,gU,rfl⟩⟩
        ·exact .inl ⟨rfl,rfl⟩
        ·exact .inr ⟨rfl,y2,gU,rfl⟩
     | cons y b =>
       have hb':=List.pairwise_cons.1 hb
       rw[rD]
       split
       ·rename_i hlt
        obtain⟨i1,i2⟩:=ih a (y::b) (by simp at h⊢;omega) Ut.2 hb
        have hall:∀z∈y::b,cmpL (key x) (key z)<0:=fun z hz=>by
         rcases List.mem_cons.1 hz with rfl|hz
         ·exact hlt
         ·exact kC hlt (hb'.1 z hz)
        refine⟨ahead i1 i2 Ut.1 hall,fun c=>?_⟩
        rw[List.mem_cons,i2]
        constructor
        ·rintro(rfl|hc)
         ·exact .inl ⟨rfl,x,by simp,rfl,fun z hz=>(tE (hall z hz)).symm⟩
         ·rcases hc with ⟨k,x2,hx2,e,hn⟩|⟨k,y2,gU,e,hn⟩|⟨k,x2,hx2,y2,gU,e1,e2,e3⟩
          ·exact .inl ⟨k,x2,by simp[hx2],e,hn⟩
          ·refine .inr (.inl ⟨k,y2,gU,e,fun z hz=>?_⟩)
           rcases List.mem_cons.1 hz with rfl|hz
           ·exact tE (hall y2 gU)
           ·exact hn z hz
          ·exact .inr (.inr ⟨k,x2,by simp[hx2],y2,gU,e1,e2,e3⟩)
        ·rintro(⟨k,x2,hx2,e,hn⟩|⟨k,y2,gU,e,hn⟩|⟨k,x2,hx2,y2,gU,e1,e2,e3⟩)
         ·rcases List.mem_cons.1 hx2 with rfl|hx2
          ·exact .inl (by rw[e,←k])
          ·exact .inr (.inl ⟨k,x2,hx2,e,hn⟩)
         ·exact .inr (.inr (.inl ⟨k,y2,gU,e,fun z hz=>hn z (by simp[hz])⟩))
         ·rcases List.mem_cons.1 hx2 with rfl|hx2
          ·exact absurd e1 (tE (hall y2 gU))
          ·exact .inr (.inr (.inr ⟨k,x2,hx2,y2,gU,e1,e2,e3⟩))
       ·rename_i hge
        split
        ·rename_i hgt
         obtain⟨i1,i2⟩:=ih (x::a) b (by simp at h⊢;omega) ha hb'.2
         have Zj:cmpL (key y) (key x)<0:=by have:=K4 (key y) (key x);omega
         have hall:∀z∈x::a,cmpL (key y) (key z)<0:=fun z hz=>by
          rcases List.mem_cons.1 hz with rfl|hz
          ·exact Zj
          ·exact kC Zj (Ut.1 z hz)
         refine⟨ahead i1 i2 hall hb'.1,fun c=>?_⟩
         rw[List.mem_cons,i2]
         constructor
         ·rintro(rfl|hc)
          ·exact .inr (.inl ⟨rfl,y,by simp,rfl,fun z hz=>(tE (hall z hz)).symm⟩)
          ·rcases hc with ⟨k,x2,hx2,e,hn⟩|⟨k,y2,gU,e,hn⟩|⟨k,x2,hx2,y2,gU,e1,e2,e3⟩
           ·refine .inl ⟨k,x2,hx2,e,fun z hz=>?_⟩
            rcases List.mem_cons.1 hz with rfl|hz
            ·exact tE (hall x2 hx2)
            ·exact hn z hz
           ·exact .inr (.inl ⟨k,y2,by simp[gU],e,hn⟩)
           ·exact .inr (.inr ⟨k,x2,hx2,y2,by simp[gU],e1,e2,e3⟩)
         ·rintro(⟨k,x2,hx2,e,hn⟩|⟨k,y2,gU,e,hn⟩|⟨k,x2,hx2,y2,gU,e1,e2,e3⟩)
          ·exact .inr (.inl ⟨k,x2,hx2,e,fun z hz=>hn z (by simp[hz])⟩)
          ·rcases List.mem_cons.1 gU with rfl|gU
           ·exact .inl (by rw[e,←k])
           ·exact .inr (.inr (.inl ⟨k,y2,gU,e,hn⟩))
          ·rcases List.mem_cons.1 gU with rfl|gU
           ·exact absurd e1.symm (tE (hall x2 hx2))
           ·exact .inr (.inr (.inr ⟨k,x2,hx2,y2,gU,e1,e2,e3⟩))
        ·rename_i hle
         obtain⟨i1,i2⟩:=ih a b (by simp at h⊢;omega) Ut.2 hb'.2
         have he:x.1=y.1:=Vv hge hle
         have hky:key x=key y:=by unfold key;rw[he]
         have Zk:∀z∈a,x.1≠z.1:=fun z hz=>tE (Ut.1 z hz)
         have Zl:∀z∈b,x.1≠z.1:=fun z hz=>by rw[he];exact tE (hb'.1 z hz)
         constructor
         ·split
          ·exact i1
          ·exact ahead i1 i2 Ut.1 (fun z hz=>by
           show cmpL (key x) (key z)<0
           rw[hky];exact hb'.1 z hz)
         ·intro c
          rw[List.mem_append,i2]
          constructor
          ·rintro(hc|hc)
           ·split at hc
            ·cases hc
            ·rename_i hne
             obtain rfl:=List.mem_singleton.1 hc
             exact .inr (.inr ⟨rfl,x,by simp,y,by simp,he,hne,rfl⟩)
           ·rcases hc with ⟨k,x2,hx2,e,hn⟩|⟨k,y2,gU,e,hn⟩|⟨k,x2,hx2,y2,gU,e1,e2,e3⟩
            ·refine .inl ⟨k,x2,by simp[hx2],e,fun z hz=>?_⟩
             rcases List.mem_cons.1 hz with rfl|hz
             ·rw[←he];exact Zk x2 hx2
             ·exact hn z hz
            ·refine .inr (.inl ⟨k,y2,by simp[gU],e,fun z hz=>?_⟩)
             rcases List.mem_cons.1 hz with rfl|hz
             ·exact Zl y2 gU
             ·exact hn z hz
            ·exact .inr (.inr ⟨k,x2,by simp[hx2],y2,by simp[gU],e1,e2,e3⟩)
          ·rintro(⟨k,x2,hx2,e,hn⟩|⟨k,y2,gU,e,hn⟩|⟨k,x2,hx2,y2,gU,e1,e2,e3⟩)
           ·rcases List.mem_cons.1 hx2 with rfl|hx2
            ·exact absurd he.symm (hn y (by simp))
            ·exact .inr (.inl ⟨k,x2,hx2,e,fun z hz=>hn z (by simp[hz])⟩)
           ·rcases List.mem_cons.1 gU with rfl|gU
            ·exact absurd he (hn x (by simp))
            ·exact .inr (.inr (.inl ⟨k,y2,gU,e,fun z hz=>hn z (by simp[hz])⟩))
           ·rcases List.mem_cons.1 hx2 with rfl|hx2
            ·rcases List.mem_cons.1 gU with rfl|gU
             ·left
              rw[if_neg e2,List.mem_singleton,e3,←k]
             ·exact absurd e1 (Zl y2 gU)
            ·rcases List.mem_cons.1 gU with rfl|gU
             ·exact absurd (he.trans e1.symm) (Zk x2 hx2)
             ·exact .inr (.inr (.inr ⟨k,x2,hx2,y2,gU,e1,e2,e3⟩))
end Go.Ge
namespace Go.Ge
set_option linter.unusedVariables false
set_option linter.unusedSimpArgs false
def WZ(a b:List Nd)(c:Dl):Prop :=
 (c.1=3∧∃x∈a,x.1=c.2.1∧∀y∈b,y.1≠x.1)∨(c.1=2∧∃x∈a,∃y∈b,x.1=y.1∧x≠y∧x.1=c.2.1)
theorem WZ.path{a b:List Nd}{c:Dl}(h:WZ a b c):∃x∈a,x.1=c.2.1:=by
 rcases h with ⟨_,x,hx,e,_⟩|⟨_,x,hx,_,_,_,_,e⟩<;>exact⟨x,hx,e⟩
theorem fresh{l:List Nd}(ho:Ord l){i:Nat}{x:Nd}(hx:l[i]?=some x):∀z∈l.take i,z.1≠x.1:=fun z hz=>by
 obtain⟨j,hj⟩:=fE.1 hz
 rw[List.getElem?_take] at hj
 split at hj
 ·rename_i hji
  exact tE (ho j i z x hji hj hx)
 ·cases hj
end Go.Ge
namespace Go.Ge
set_option linter.unusedVariables false
set_option linter.unusedSimpArgs false
def mN(n:Nd):Pt:=(((if n.2.1=2 then n.1++[47] else n.1),(n.2.1,(n.2.2.1,((0:Int),((0:Int),(len n.2.2.2.1,((0:Int),(n.2.2.2.2.1,())))))))),(n.2.2.2.1,()))
theorem Sq(n:Nd)(h:n.1.length≤4096):qQ (n,())=some (mN n,()):=by
 unfold qQ mN
 dsimp only
 rw[bw (by simp;omega),af]
 by_cases e:n.2.1=2
 ·rw[ck e,af,aa,if_pos e];rfl
 ·rw[b7 e,ag,aa,if_neg e]
def OG(p:List UInt8):Pt:=((gM (aJ p).1 ([46,119,104,46]++(aJ p).2),((1:Int),((0:Int),((0:Int),((0:Int),((0:Int),((0:Int),(([]:List UInt8),())))))))),(([]:List UInt8),()))
noncomputable def Vw(b:List Nd)(p:List UInt8):Bool:=au (nt (bZ (aJ p).1 [])) (au (findF b (aJ p).1).2.1 (bp (findF b (aJ p).1).1.2.1 2) false) true
noncomputable def sw(b:List Nd)(c:Dl):List Pt:=if(findF b c.2.1).2.1=true then [mN (findF b c.2.1).1] else if Vw b c.2.1=true then [OG c.2.1] else []
open Classical in
noncomputable def cl(a b:List Nd):List Pt×Int:=if Valid a∧Valid b then((rD a b).flatMap (sw b),0) else([],1)
theorem B9(p:List UInt8):(aJ p).1.length+(aJ p).2.length≤p.length:=by
 rcases iW p with ⟨_,h⟩|⟨a,b,h1,_,h⟩
 ·rw[h];simp
 ·rw[h,h1];simp
theorem Ig(d n:List UInt8):(gM d n).length≤d.length+n.length+1:=by
 unfold gM
 split<;>simp<;>omega
theorem JE(b:List Nd)(c:Dl):(sw b c).length≤1:=by
 unfold sw
 split
 ·simp
 ·split<;>simp
theorem FT{α β:Type}(g:α→List β)(h:∀x,(g x).length≤1):∀l:List α,(l.flatMap g).length≤l.length:=by
 intro l
 induction l with
 | nil=>simp
 | cons x r ih =>
   have:=h x
   simp only[List.flatMap_cons,List.length_append,List.length_cons]
   omega
theorem Ca{a b:List Nd}(ha:Valid a)(hb:Valid b){c:Dl}:c∈rD a b↔Qm a b c :=
 (Sp (a.length+b.length) a b (Nat.le_refl _) (rC.1 ha.ord) (rC.1 hb.ord)).2 c
theorem OH{a b:List Nd}(ha:mM a)(hb:mM b){c:Dl}(h:Qm a b c):c.2.1.length≤200:=by
 rcases h.path with ⟨x,hx,e⟩|⟨y,hy,e⟩
 ·rw[←e];exact(ha.2 x hx).1
 ·rw[←e];exact(hb.2 y hy).1
theorem LL{a b:List Nd}(hb:Valid b){c:Dl}(h:Qm a b c):(c.1=3∧findF b c.2.1=(Ox,(false,())))∨(c.1≠3∧∃y∈b,findF b c.2.1=(y,(true,()))):=by
 rcases h with ⟨k,x,hx,e,hn⟩|⟨k,y,hy,e,_⟩|⟨k,x,hx,y,hy,e1,_,e2⟩
 ·exact .inl ⟨k,sg fun y hy q=>hn y hy (by rw[q,e])⟩
 ·exact .inr ⟨by omega,y,hy,gZ hb.ord hy e⟩
 ·exact .inr ⟨by omega,y,hy,gZ hb.ord hy (by rw[←e1,e2])⟩
theorem zD(a b:List Nd)(ha:mM a)(hb:mM b):jH (a,(b,()))=some ((cl a b).1,((cl a b).2,())):=by
 unfold jH
 dsimp only
 rw[CW a b ha hb,aa]
 unfold P3 cl
 by_cases hv:Valid a∧Valid b
 ·rw[if_pos hv,if_pos hv]
  dsimp only
  rw[show nt (bp 0 0)=false from rfl,ag]
  have hlen:(rD a b).length≤8192:=by have:=JB _ a b (Nat.le_refl _);have:=ha.1;have:=hb.1;omega
  have key:=Fc (f:=iG (a,(b,())) (rD a b,((0:Int),()))) (rD a b) (fun out i=>(((),(i,())),(out,()))) (sw b) (((),(((rD a b).length:Int),())),((rD a b).flatMap (sw b),())) (by omega) (fun i x hx hi zv=>by
   have hc:Qm a b x:=(Ca hv.1 hv.2).1 (List.mem_of_getElem? hx)
   have hl:=OH ha hb hc
   have hsum:=B9 x.2.1
   have hout:(((rD a b).take i).flatMap (sw b)).length≤8192:=by
    have:=FT (sw b) (JE b) ((rD a b).take i)
    rw[List.length_take] at this;omega
   unfold iG
   dsimp only
   rw[aF hi,af,aK hx,aa,B3 b x.2.1 hb (by omega) hv.2,aa,zv]
   have hfit:∀p:Pt,fits (plus (len (((rD a b).take i).flatMap (sw b))) (len [p]))=true:=fun p=>bw (by simp only[List.length_cons,List.length_nil];omega)
   rcases LL hv.2 hc with ⟨k,hf⟩|⟨k,y,hy,hf⟩
   ·rw[ck k,aT,ag,kD _ (by omega),aa,B3 b _ hb (by dsimp only;omega) hv.2,aa]
    dsimp only
    rw[bw (by simp only[List.length_cons,List.length_nil];omega),af,xX _ _ (by omega) (by rw[lf,List.length_append];simp only[List.length_cons,List.length_nil];omega),aa]
    simp only[hfit,af]
    rw[show sw b x=if Vw b x.2.1=true then [OG x.2.1] else [] by unfold sw;rw[hf,if_neg (by simp)]]
    unfold Vw
    cases au (nt (bZ (aJ x.2.1).1 [])) (au (findF b (aJ x.2.1).1).2.1 (bp (findF b (aJ x.2.1).1).1.2.1 2) false) true with
    | false=>rw[if_neg (by simp),List.append_nil];rfl
    | true=>rw[if_pos rfl];rfl
   ·rw[b7 k,hf]
    rw[show sw b x=[mN y] by unfold sw;rw[hf,if_pos rfl]]
    dsimp only
    rw[aO,af,Sq y (by have:=(hb.2 y hy).1;omega),aa]
    dsimp only
    rw[hfit,af,rZ,lf]) (by
   unfold iG
   dsimp only
   rw[aS,ag]
   rfl)
  rw[show Loop (iG (a,(b,())) (rD a b,((0:Int),()))) (((),((0:Int),())),(([]:List Pt),()))=_ from key,aa]
 ·rw[if_neg hv,if_neg hv]
  rfl
theorem Ih{a b:List Nd}(ha:mM a)(hb:mM b)(hla:a.length≤40)(hlb:b.length≤40):WW (cl a b).1 100:=by
 unfold cl
 by_cases hv:Valid a∧Valid b
 ·rw[if_pos hv]
  dsimp only
  have hent:∀p∈(rD a b).flatMap (sw b),p.1.1.length≤300∧p.1.2.2.2.2.2.2.2.1.length≤300∧p.2.1.length≤8192:=fun p hp=>by
   obtain⟨c,hc,hp⟩:=List.mem_flatMap.1 hp
   have hi:=(Ca hv.1 hv.2).1 hc
   have hl:=OH ha hb hi
   unfold sw at hp
   rcases LL hv.2 hi with ⟨k,hf⟩|⟨k,y,hy,hf⟩
   ·rw[hf,if_neg (by simp)] at hp
    split at hp
    ·rw[List.mem_singleton] at hp
     subst hp
     unfold OG
     dsimp only
     have h1:=Ig (aJ c.2.1).1 ([46,119,104,46]++(aJ c.2.1).2)
     have h2:=B9 c.2.1
     rw[List.length_append] at h1
     refine⟨?_,by simp,by simp⟩
     simp only[List.length_cons,List.length_nil] at h1
     omega
    ·cases hp
   ·rw[hf,if_pos rfl,List.mem_singleton] at hp
    subst hp
    have:=hb.2 y hy
    unfold Sm at this
    unfold mN
    dsimp only
    refine⟨?_,by omega,by omega⟩
    split
    ·rw[List.length_append,List.length_singleton];omega
    ·omega
  refine⟨?_,fun p hp=>(hent p hp).1,fun p hp=>(hent p hp).2.1,fun p hp=>(hent p hp).2.2⟩
  have:=FT (sw b) (JE b) (rD a b)
  have:=JB _ a b (Nat.le_refl _)
  omega
 ·rw[if_neg hv]
  exact⟨by simp,by simp,by simp,by simp⟩
noncomputable def FU(a b:List Nd):List UInt8×Int:=if(cl a b).2=0 then tD (cl a b).1 else([],(cl a b).2)
theorem LM(a b:List Nd)(ha:mM a)(hb:mM b)(hla:a.length≤40)(hlb:b.length≤40):nH (a,(b,()))=some ((FU a b).1,((FU a b).2,())):=by
 unfold nH FU
 dsimp only
 rw[zD a b ha hb,aa]
 dsimp only
 rw[PG _ (Ih ha hb hla hlb),aa]
 by_cases e:(cl a b).2=0
 ·rw[ck e,if_pos e];rfl
 ·rw[b7 e,if_neg e];rfl
end Go.Ge
namespace Go.Ge
set_option linter.unusedVariables false
set_option linter.unusedSimpArgs false
theorem JF(l:List Dl)(hl:l.length≤4294967296):nI (l,(l,()))=some (true,()):=by
 unfold nI
 dsimp only
 rw[ck rfl,aT,ag]
 rcases AM (f:=lT (l,(l,()))) l (fun i=>((false,(i,())),())) (fun _ _=>false) (fun i _=>(1,((false,((i:Int),())),()))) (0,((false,((l.length:Int),())),())) hl (fun i x hx hi ha=>by
  unfold lT
  dsimp only
  rw[aF hi,af,af,aK hx,aa,aa,rS,j9,ha]
  rfl) (by unfold lT;dsimp only;rw[aS,ag,ag]) with ⟨i,x,_,hp,_⟩|⟨hn,h⟩
 ·cases hp
 ·rw[h];rfl
def CX(k:Int):List UInt8:=if 1≤k∧k≤3 then(if k=1 then [43] else if k=2 then [126] else [45]) else [63]
def sW(c:Dl):List UInt8:=CX c.1++[32]++vT c.2.1++[10]
theorem Ii(k:Int):(CX k).length=1:=by
 unfold CX
 split
 ·split
  ·rfl
  ·split<;>rfl
 ·rfl
theorem Ij(c:Dl):(sW c).length=2*c.2.1.length+3:=by
 unfold sW
 simp only[List.length_append,Ii,p5,List.length_cons,List.length_nil]
 omega
theorem TZ{α β:Type}(g:α→List β)(k:Nat):∀l:List α,(∀x∈l,(g x).length≤k)→(l.flatMap g).length≤l.length*k:=by
 intro l
 induction l with
 | nil=>simp
 | cons x r ih =>
   intro h
   have h1:=h x (by simp)
   have h2:=ih fun y hy=>h y (by simp[hy])
   simp only[List.flatMap_cons,List.length_append,List.length_cons,Nat.add_mul]
   omega
theorem Sr{k:Int}(h1:1≤k)(h3:k≤3):idx ([[],[43],[126],[45]]:List (List UInt8)) k=some (CX k):=by
 have:k=1∨k=2∨k=3:=by omega
 rcases this with rfl|rfl|rfl<;>rfl
theorem P4(l:List Dl)(hl:l.length≤4096)(hp:∀c∈l,c.2.1.length≤4096):qR (l,())=some (l.flatMap sW,()):=by
 unfold qR
 have key:=Fc (f:=ju (l,())) l (fun(out:List Int) i=>((i,()),(((),((),())),(out,())))) (fun c=>ai (sW c)) (((l.length:Int),()),(((),((),())),(l.flatMap (fun c=>ai (sW c)),()))) (by omega) (fun i x hx hi zv=>by
  have hout:((l.take i).flatMap (fun c=>ai (sW c))).length≤(l.take i).length*8200:=TZ _ _ _ fun c hc=>by
   have:=hp c (List.mem_of_mem_take hc)
   rw[zz,Ij];omega
  rw[List.length_take] at hout
  have hx1:=hp x (List.mem_of_getElem? hx)
  have Xf:=Ij x
  have fin:∀s:List UInt8,s=CX x.1→(au (fits (plus (len s) (len ([32]:List UInt8)))) (ah (nx (x.2.1,())) (fun(y4:(List (UInt8))×Unit)=>au (fits (plus (@len UInt8 (@app UInt8 s ([(32:UInt8)]:List (UInt8)))) (@len UInt8 y4.1)))
   (au (fits (plus (@len UInt8 (@app UInt8 (@app UInt8 s ([(32:UInt8)]:List (UInt8))) y4.1)) (@len UInt8 ([(10:UInt8)]:List (UInt8)))))
   (au (fits (plus (@len Int ((l.take i).flatMap (fun c=>ai (sW c)))) (@len Int (ai (@app UInt8 (@app UInt8 (@app UInt8 s ([(32:UInt8)]:List (UInt8))) y4.1) ([(10:UInt8)]:List (UInt8)))))))
   (some (Sum.inl (((((i+1:Nat):Int)),()),(((),((),())),(@app Int ((l.take i).flatMap (fun c=>ai (sW c))) (ai (@app UInt8 (@app UInt8 (@app UInt8 s ([(32:UInt8)]:List (UInt8))) y4.1) ([(10:UInt8)]:List (UInt8)))),()))):(((Int×Unit)×(Unit×Unit×Unit)×(List (Int))×Unit))⊕((Nat×(Int×Unit)×(Unit×Unit×Unit)×(List (Int))×Unit))))
   none) none) none)) none)=some (Sum.inl ((((i+1:Nat):Int),()),(((),((),())),((l.take i).flatMap (fun c=>ai (sW c))++ai (sW x),())))):=fun s e=>by
   subst e
   have h1:=Ii x.1
   rw[bw (by simp;omega),af,TH _ (by omega),aa]
   dsimp only
   rw[bw (by rw[lf,List.length_append,p5];simp;omega),af,bw (by rw[lf,lf,List.length_append,List.length_append,p5];simp;omega),af]
   rw[show app (app (app (CX x.1) [32]) (vT x.2.1)) [10]=sW x from rfl,bw (by rw[zz,Xf];omega),af]
   rfl
  unfold ju
  dsimp only
  rw[aF hi,af,aK hx,aa,zv]
  by_cases h1:1≤x.1
  ·by_cases h3:x.1≤3
   ·rw[eF h1,eF h3,af,af,cL (by omega) (by omega),af,Sr h1 h3,aa,aa]
    dsimp only
    rw[fin _ rfl];rfl
   ·rw[eF h1,kT (by omega),af,ag,aa]
    dsimp only
    rw[fin _ (by unfold CX;rw[if_neg (by omega)])];rfl
  ·rw[kT (by omega),ag,ag,aa]
   dsimp only
   rw[fin _ (by unfold CX;rw[if_neg (by omega)])];rfl) (by
  unfold ju
  dsimp only
  rw[aS,ag]
  rfl)
 rw[show Loop (ju (l,())) (((0:Int),()),(((),((),())),(([]:List Int),())))=_ from key,aa]
 dsimp only
 have:l.flatMap (fun c=>ai (sW c))=ai (l.flatMap sW):=by
  unfold ai
  rw[List.map_flatMap]
 rw[this,gy]
end Go.Ge
namespace Go.Ge
set_option linter.unusedVariables false
set_option linter.unusedSimpArgs false
def T0:Nd:=([97],(1,(0,([],([],())))))
def T3:Nd:=([98],(1,(0,([],([],())))))
def Qn:Nd:=([98],(1,(0,([120],([],())))))
def Qo:Nd:=([100],(2,(0,([],([],())))))
def wC:List Dl:=[(3,([97],())),(2,([98],())),(1,([100],()))]
def Vx:Pt:=(([46,119,104,46,97],(1,(0,(0,(0,(0,(0,([],())))))))),([],()))
def Vy:Pt:=(([98],(1,(0,(0,(0,(1,(0,([],())))))))),([120],()))
def Vz:Pt:=(([100,47],(2,(0,(0,(0,(0,(0,([],())))))))),([],()))
theorem wS:mM [T0,T3]∧mM [Qn,Qo]:=⟨Ze ⟨by decide,by decide,by decide⟩ ⟨by decide,by decide,by decide⟩,Ze ⟨by decide,by decide,by decide⟩ ⟨by decide,by decide,by decide⟩⟩
theorem wV:Valid [T0,T3]∧Valid [Qn,Qo]:=⟨AU (by decide +kernel),AU (by decide +kernel)⟩
theorem wM:rD [T0,T3] [Qn,Qo]=wC:=by
 rw[rD,if_pos (by decide +kernel),rD,if_neg (by decide +kernel),if_neg (by decide +kernel),if_neg (by decide +kernel),rD,rD]
 rfl
theorem wE1:sw [Qn,Qo] (3,([97],()))=[Vx]:=by kernel_rfl
theorem wE2:sw [Qn,Qo] (2,([98],()))=[Vy]:=by kernel_rfl
theorem wE3:sw [Qn,Qo] (1,([100],()))=[Vz]:=by kernel_rfl
theorem Zm:cl [T0,T3] [Qn,Qo]=([Vx,Vy,Vz],0):=by
 unfold cl
 rw[if_pos wV,wM]
 unfold wC
 simp only[List.flatMap_cons,List.flatMap_nil,wE1,wE2,wE3]
 rfl
theorem Zn:∀p∈[Vx,Vy,Vz],yg p:=by
 intro p hp
 simp only[List.mem_cons,List.not_mem_nil,or_false] at hp
 rcases hp with rfl|rfl|rfl
 ·exact⟨by decide +kernel,rfl⟩
 ·exact⟨by decide +kernel,rfl⟩
 ·exact⟨by decide +kernel,rfl⟩
theorem W0:(jU [Vx,Vy,Vz]).length=2048:=by rw[PI Zn];rfl
theorem wD:FU [T0,T3] [Qn,Qo]=(jU [Vx,Vy,Vz]++aE 1024,0):=by
 unfold FU
 rw[Zm]
 dsimp only
 rw[if_pos rfl]
 unfold tD
 rw[if_neg (by decide),if_pos Zn,if_neg (by rw[W0];omega)]
theorem x8:gY ()=some (true,()):=by
 unfold gY
 have h1:=CW [T0,T3] [Qn,Qo] wS.1 wS.2
 have h2:=zD [T0,T3] [Qn,Qo] wS.1 wS.2
 have h3:=LM [T0,T3] [Qn,Qo] wS.1 wS.2 (by decide) (by decide)
 unfold P3 at h1
 rw[if_pos wV,wM] at h1
 rw[Zm] at h2
 rw[wD] at h3
 have hl:(jU [Vx,Vy,Vz]++aE 1024).length=3072:=by rw[List.length_append,aN,W0]
 have ht:=P4 wC (by decide) (by decide)
 rw[show wC.flatMap sW=[45,32,54,49,10,126,32,54,50,10,43,32,54,52,10] by kernel_rfl] at ht
 have hs:=JF wC (by decide)
 unfold T0 T3 Qn Qo at h1 h2 h3
 have hs':nI (wC,([(3,([97],())),(2,([98],())),(1,([100],()))],()))=some (true,()):=hs
 rw[h1,aa,h2,aa,h3,aa]
 dsimp only
 rw[hs',aa,ht,aa]
 dsimp only
 rw[show bp (len (jU [Vx,Vy,Vz]++aE 1024)) 3072=true from ck (by rw[cN,hl];rfl)]
 rfl
theorem P5{c:Bool}{x:Option (Bool×Unit)}(h:c=false→x=some (true,())):au c (ah (gY ()) fun y=>some (y.1,())) x=some (true,()):=by
 cases c with
 | true=>rw[af,x8];rfl
 | false=>rw[ag];exact h rfl
end Go.Ge
namespace Go.Ge
set_option linter.unusedVariables false
set_option linter.unusedSimpArgs false
theorem kW{p:List UInt8}(h:nN p=true):p≠[]∧(parts p).all gp=true∧(parts p).length≤8∧p.length≤92∧(aJ p).2.length≤28∧(fV (aJ p).2).1=0:=by
 unfold nN at h
 simp only[Bool.and_eq_true,decide_eq_true_eq] at h
 exact⟨h.1.1.1.1.1,h.1.1.1.1.2,h.1.1.1.2,h.1.1.2,h.1.2,h.2⟩
theorem OI{x:List UInt8}(h:gp x=true):ic x=true:=by
 unfold gp at h
 have:=of_decide_eq_true h
 unfold ic
 simp only[decide_eq_true_eq]
 refine⟨fun e=>?_,fun e=>this.1 e⟩
 subst e;simp at this
theorem xe{p:List UInt8}(h:(parts p).all gp=true):B4 (parts p):=fun x hx=>by
 refine⟨(uz p x hx).1,fun e=>?_⟩
 have:=List.all_eq_true.1 h x hx
 subst e
 exact absurd this (by decide)
theorem LN{p:List UInt8}(h:(parts p).all gp=true):names p=parts p:=List.filter_eq_self.2 fun x hx=>OI (List.all_eq_true.1 h x hx)
theorem Cb{p:List UInt8}(h:(parts p).all gp=true):aJ p=(az (parts p).dropLast,(parts p).getLastD []):=by
 have:=p7 (xe h)
 rwa [bC] at this
theorem Ik{p:List UInt8}(h:(parts p).all gp=true):p.head?≠some 47:=by
 have:=Fj (xe h)
 rwa [bC] at this
theorem LP{p:List UInt8}(hp:p≠[])(h:(parts p).all gp=true):names (p++[47])=parts p:=by
 have e:parts (p++[47])=parts p++[[]]:=by
  unfold parts
  rw[if_neg (by simp),if_neg hp]
  exact sR p [] (by simp)
 unfold names
 rw[e,List.filter_append,List.filter_eq_self.2 fun x hx=>OI (List.all_eq_true.1 h x hx),show([[]]:List (List UInt8)).filter ic=[] from by simp[ic],List.append_nil]
theorem FV{l:List Nd}(hv:Valid l){y:Nd}(hy:y∈l):kZ (parts y.1)=true:=by
 have hm:=hv.may y hy
 obtain⟨h1,h2,h3,_⟩:=kW (oN hm).1
 have hne:parts y.1≠[]:=fun e=>by
  have:=bC y.1
  rw[e] at this
  exact h1 this.symm
 unfold kZ
 rw[decide_eq_true hne,Bool.and_true]
 unfold preB
 rw[List.all_eq_true]
 intro j hj
 rw[List.mem_range] at hj
 by_cases Ev:j+1=(parts y.1).length
 ·have e:cA (parts y.1) j=y.1:=by
   unfold cA
   rw[Ev,List.take_length,bC]
  rw[e]
  exact Jv hm
 ·have hu:=(B8 (xe h2) (cA (parts y.1) j)).1 ⟨j,Nat.zero_le _,by omega,rfl⟩
  obtain⟨d,hd,e,_⟩:=oQ hv hu.2 _ y hy (Nat.le_refl _) hu.1
  rw[←e]
  exact Jv (hv.may d hd)
theorem x9{l:List Nd}(hv:Valid l){y:Nd}(hy:y∈l):bu (mN y)=(0,(parts y.1,true)):=by
 have hm:=hv.may y hy
 obtain⟨h1,h2,h3,h4,h5,h6⟩:=kW (oN hm).1
 have Ss:=FV hv hy
 rw[Cb h2] at h6
 have Cc:names (mN y).1.1=parts y.1:=by
  unfold mN
  dsimp only
  split
  ·exact LP h1 h2
  ·exact LN h2
 have NS:fG (mN y).1.1=true:=by
  unfold fG
  rw[Cc,h2,decide_eq_true h3,bC,decide_eq_true (show y.1.length≤96 by omega),decide_eq_true,Bool.and_true,Bool.and_true,Bool.and_true]
  unfold mN
  dsimp only
  have:=Ik h2
  split
  ·rw[List.head?_append]
   cases hh:y.1.head? with
   | none=>exact absurd (List.head?_eq_none_iff.1 hh) h1
   | some c=>rw[hh] at this;simpa using this
  ·exact this
 have Su:gq (mN y) (az (parts y.1))=y:=by rw[bC];rfl
 unfold bu
 rw[if_pos NS,Cc]
 dsimp only at h6⊢
 rw[if_neg (by rw[h6];decide),if_neg (by rw[h6];decide),if_pos h6,Su,hm,Ss]
 simp
theorem ya{l:List Nd}(hv:Valid l){x:Nd}(hx:x∈l):bu (OG x.1)=(1,(parts x.1,true)):=by
 have hm:=hv.may x hx
 obtain⟨h1,h2,h3,h4,h5,h6⟩:=kW (oN hm).1
 have Ss:=FV hv hx
 have hne:parts x.1≠[]:=fun e=>by
  have:=bC x.1
  rw[e] at this
  exact h1 this.symm
 have hnm:=xe h2
 rw[Cb h2] at h5 h6
 dsimp only at h5 h6
 have hmem:(parts x.1).getLastD []∈parts x.1:=by
  rcases hc:parts x.1 with _|⟨a,r⟩
  ·exact absurd hc hne
  ·rw[List.getLastD_cons,←List.getLast_eq_getLastD (h:=by simp)]
   exact List.getLast_mem _
 have hdl:(parts x.1).dropLast++[(parts x.1).getLastD []]=parts x.1:=by
  rcases hc:parts x.1 with _|⟨a,r⟩
  ·exact absurd hc hne
  ·rw[List.getLastD_cons,←List.getLast_eq_getLastD (h:=by simp)]
   exact List.dropLast_concat_getLast (by simp)
 generalize Ev:(parts x.1).getLastD []=last at *
 have Yy:gp last=true:=List.all_eq_true.1 h2 last hmem
 have hl:=Yy
 unfold gp at hl
 obtain⟨l1,l2,l3,l4,l5⟩:=of_decide_eq_true hl
 have hwn:gp ([46,119,104,46]++last)=true:=by
  unfold gp
  refine decide_eq_true ⟨?_,?_,?_,?_,?_⟩
  ·simp
  ·simp
  ·simp
  ·simp only[List.length_append,List.length_cons,List.length_nil];omega
  ·simp[l5]
 have hok:B4 ((parts x.1).dropLast++[[46,119,104,46]++last]):=fun z hz=>by
  rcases List.mem_append.1 hz with hz|hz
  ·exact hnm z (by rw[List.dropLast_eq_take] at hz;exact List.mem_of_mem_take hz)
  ·rw[List.mem_singleton] at hz
   subst hz
   refine⟨?_,by simp⟩
   have:=(hnm last hmem).1
   simp[this]
 have VA:(OG x.1).1.1=az ((parts x.1).dropLast++[[46,119,104,46]++last]):=by
  unfold OG
  dsimp only
  rw[Cb h2,Ev]
  exact r9 [_] _ hok
 have hparts:parts (OG x.1).1.1=(parts x.1).dropLast++[[46,119,104,46]++last]:=by rw[VA];exact eR _ hok
 have hall:(parts (OG x.1).1.1).all gp=true:=by
  rw[hparts,List.all_append]
  simp only[List.all_cons,List.all_nil,Bool.and_true,Bool.and_eq_true]
  refine⟨List.all_eq_true.2 fun z hz=>List.all_eq_true.1 h2 z (by rw[List.dropLast_eq_take] at hz;exact List.mem_of_mem_take hz),hwn⟩
 have Cc:=LN hall
 rw[hparts] at Cc
 have hjl:(az ((parts x.1).dropLast++[[46,119,104,46]++last])).length≤x.1.length+4:=by
  have e1:gM (az (parts x.1).dropLast) ([46,119,104,46]++last)=az ((parts x.1).dropLast++[[46,119,104,46]++last]):=r9 [_] _ hok
  have e2:gM (az (parts x.1).dropLast) last=x.1:=by
   have:=r9 [last] (parts x.1).dropLast (by rw[hdl];exact hnm)
   rw[hdl,bC] at this
   exact this
  rw[←e1]
  have:=congrArg List.length e2
  unfold gM at this⊢
  split at this
  ·rename_i hc
   rcases hc with hc|hc
   ·rw[hc] at this⊢
    rw[if_pos (.inl rfl)]
    simp only[List.length_append,List.length_cons,List.length_nil] at this⊢
    omega
   ·rw[hc] at l3;simp at l3
  ·rename_i hc
   rw[if_neg (fun q=>hc (.inl (q.elim id fun q=>absurd q (by simp))))]
   simp only[List.length_append,List.length_cons,List.length_nil] at this⊢
   omega
 have hlen:((parts x.1).dropLast++[[46,119,104,46]++last]).length=(parts x.1).length:=by
  rw[←congrArg List.length hdl];simp
 have NS:fG (OG x.1).1.1=true:=by
  unfold fG
  rw[Cc,←hparts,hall,hparts]
  simp only[Bool.and_eq_true,decide_eq_true_eq]
  exact⟨⟨⟨trivial,Ik hall⟩,by omega⟩,by omega⟩
 have VH:((parts x.1).dropLast++[[46,119,104,46]++last]).getLastD []=[46,119,104,46]++last:=by
  rw[List.getLastD_eq_getLast?,List.getLast?_append];rfl
 have hmk:fV ([46,119,104,46]++last)=(1,last):=by
  have hd:([46,119,104,46]++last).drop 4=last:=rfl
  have ht:([46,119,104,46]++last).take 4=wh:=by
   rw[List.take_append_of_le_length (by simp)];rfl
  have hw:¬last.take 4=wh:=fun e=>by
   have:(fV last).1≠0:=by
    unfold fV
    rw[if_pos e]
    split
    ·simp
    ·split<;>simp
   exact this h6
  unfold fV
  rw[if_pos ht,hd,if_neg (fun e=>hw (by rw[e];rfl)),if_neg]
  rintro(e|e|e|e)
  ·exact hw e
  ·rw[e] at l3;simp at l3
  ·exact l1 e
  ·exact l2 e
 have W3:mw ((parts x.1).dropLast++[[46,119,104,46]++last])=parts x.1:=by
  unfold mw
  rw[VH,hmk,List.dropLast_concat,hdl]
 unfold bu
 rw[if_pos NS,Cc]
 dsimp only
 rw[VH,hmk,W3,Ss]
 rfl
theorem vf{a b:List Nd}(ha:Valid a)(hb:Valid b){e:Pt}:e∈(cl a b).1↔(∃y∈b,y∉a∧e=mN y)∨(∃x∈a,(∀y∈b,y.1≠x.1)∧Vw b x.1=true∧e=OG x.1):=by
 unfold cl
 rw[if_pos ⟨ha,hb⟩]
 dsimp only
 rw[List.mem_flatMap]
 constructor
 ·rintro⟨c,hc,he⟩
  have hi:=(Ca ha hb).1 hc
  unfold sw at he
  rcases hi with ⟨_,x,hx,e1,hno⟩|⟨_,y,hy,e1,hno⟩|⟨_,x,hx,y,hy,Zo,hne,e1⟩
  ·right
   rw[sg (fun y hy=>by rw[←e1];exact hno y hy),if_neg (by simp)] at he
   split at he
   ·rename_i hw
    rw[List.mem_singleton] at he
    exact⟨x,hx,hno,by rw[e1];exact hw,by rw[e1];exact he⟩
   ·cases he
  ·left
   rw[gZ hb.ord hy e1,if_pos rfl,List.mem_singleton] at he
   exact⟨y,hy,fun h=>hno y h rfl,he⟩
  ·left
   rw[gZ hb.ord hy (Zo.symm.trans e1),if_pos rfl,List.mem_singleton] at he
   exact⟨y,hy,fun h=>hne (ha.ord.uniq hx h Zo),he⟩
 ·rintro(⟨y,hy,VY,rfl⟩|⟨x,hx,hno,hw,rfl⟩)
  ·by_cases hex:∃x∈a,x.1=y.1
   ·obtain⟨x,hx,e⟩:=hex
    refine⟨(2,(y.1,())),(Ca ha hb).2 (.inr (.inr ⟨rfl,x,hx,y,hy,e,fun q=>VY (q▸hx),e⟩)),?_⟩
    unfold sw
    rw[gZ hb.ord hy rfl,if_pos rfl]
    exact List.mem_singleton.2 rfl
   ·refine⟨(1,(y.1,())),(Ca ha hb).2 (.inr (.inl ⟨rfl,y,hy,rfl,fun x hx e=>hex ⟨x,hx,e⟩⟩)),?_⟩
    unfold sw
    rw[gZ hb.ord hy rfl,if_pos rfl]
    exact List.mem_singleton.2 rfl
  ·refine⟨(3,(x.1,())),(Ca ha hb).2 (.inl ⟨rfl,x,hx,rfl,hno⟩),?_⟩
   unfold sw
   rw[sg (fun y hy=>hno y hy),if_neg (by simp),if_pos hw]
   exact List.mem_singleton.2 rfl
end Go.Ge
namespace Go.Ge
set_option linter.unusedVariables false
set_option linter.unusedSimpArgs false
theorem zE{x y:Nd}{p:List (List UInt8)}(hu:(aJ x.1).1≠[])(e:y.1=(aJ x.1).1)(h:bM (parts y.1) p=true):bM (parts x.1) p=true:=by
 have hk:=mo hu
 rw[←e] at hk
 unfold bM at h⊢
 obtain⟨h1,h2⟩:=of_decide_eq_true h
 refine decide_eq_true ⟨?_,?_⟩
 ·rw[hk,List.length_append];omega
 ·rw[hk,List.take_append_of_le_length (by omega),h2]
theorem Sv{x y:Nd}{e:Pt}(hu:(aJ x.1).1≠[])(he:y.1=(aJ x.1).1)(h:vV y.1 e=true):vV x.1 e=true:=by
 unfold vV at h⊢
 simp only[Bool.or_eq_true,Bool.and_eq_true,decide_eq_true_eq] at h⊢
 rcases h with ⟨h1,h2|h2⟩|⟨h1,h2⟩
 ·refine .inl ⟨h1,.inr ?_⟩
  have:=si hu
  rw[←he,h2,NR] at this
  exact this
 ·exact .inl ⟨h1,.inr (zE hu he h2)⟩
 ·exact .inr ⟨h1,zE hu he h2⟩
theorem goes{a b:List Nd}(ha:Valid a)(hb:Valid b):∀(n:Nat) (x:Nd),x∈a→(parts x.1).length≤n→(∀y∈b,y.1≠x.1) →
  (∃e∈(cl a b).1,vV x.1 e=true)∨(∃y∈b,mN y∈(cl a b).1∧y.2.1≠2∧bM (parts x.1) (parts y.1)=true):=by
 intro n
 induction n with
 | zero =>
   intro x hx hn _
   have:=va (ha.may x hx)
   have h2:=bC x.1
   rw[List.length_eq_zero_iff.1 (show(parts x.1).length=0 by omega)] at h2
   exact absurd h2.symm this
 | succ n ih =>
   intro x hx hn hno
   by_cases hw:Vw b x.1=true
   ·left
    refine⟨OG x.1,(vf ha hb).2 (.inr ⟨x,hx,hno,hw,rfl⟩),?_⟩
    unfold vV
    rw[ya ha hx]
    simp[bC]
   ·have hu:(aJ x.1).1≠[]:=fun e=>hw (by unfold Vw;rw[cI e];rfl)
    rcases ha.up x hx with e|⟨xp,Ow,e,k⟩
    ·exact absurd e hu
    ·by_cases hex:∃y∈b,y.1=xp.1
     ·obtain⟨y,hy,ey⟩:=hex
      have hk:y.2.1≠2:=fun hk=>hw (by
       unfold Vw
       rw[br hu,gZ hb.ord hy (ey.trans e)]
       dsimp only
       rw[ck hk];rfl)
      right
      refine⟨y,hy,(vf ha hb).2 (.inl ⟨y,hy,fun VY=>?_,rfl⟩),hk,?_⟩
      ·have:=ha.ord.uniq VY Ow ey
       rw[this] at hk
       exact hk k
      ·have:=si hu
       rw[←e,←ey] at this
       exact this
     ·have hlen:(parts xp.1).length≤n:=by
       have hk:=mo hu
       rw[←e] at hk
       rw[hk,List.length_append] at hn
       simp at hn
       omega
      rcases ih xp Ow hlen (fun y hy ey=>hex ⟨y,hy,ey⟩) with ⟨ev,h1,h2⟩|⟨y,hy,h1,h2,h3⟩
      ·exact .inl ⟨ev,h1,Sv hu e h2⟩
      ·exact .inr ⟨y,hy,h1,h2,zE hu e h3⟩
theorem yb{q:List UInt8}{v:Option Nd}:∀(ps:List Pt),(∀e∈ps,zC q v e=v)→ps.foldl (zC q) v=v:=by
 intro ps
 induction ps with
 | nil=>intro _;rfl
 | cons e r ih =>
   intro h
   rw[List.foldl_cons,h e (List.mem_cons_self ..)]
   exact ih fun x hx=>h x (List.mem_cons_of_mem _ hx)
theorem LQ{q:List UInt8}{v:Option Nd}:∀(ps:List Pt),(∀e∈ps,zC q v e=v)→(∃e∈ps,∀s,zC q s e=v)→∀s,ps.foldl (zC q) s=v:=by
 intro ps
 induction ps with
 | nil=>rintro _ ⟨e,he,_⟩;cases he
 | cons e r ih =>
   intro h hex s
   rw[List.foldl_cons]
   obtain⟨x,hx,hs⟩:=hex
   rcases List.mem_cons.1 hx with e1|hx
   ·subst e1
    rw[hs]
    exact yb r fun z hz=>h z (List.mem_cons_of_mem _ hz)
   ·exact ih (fun z hz=>h z (List.mem_cons_of_mem _ hz)) ⟨x,hx,hs⟩ _
theorem AX{b:List Nd}(hb:Valid b){y:Nd}(hy:y∈b)(q:List UInt8)(s:Option Nd):zC q s (mN y)=LK (parts y.1) y q s:=by
 have hne:parts y.1≠[]:=fun e=>by
  have:=bC y.1
  rw[e] at this
  exact va (hb.may y hy) this.symm
 have Su:gq (mN y) (az (parts y.1))=y:=by rw[bC];rfl
 unfold zC
 rw[x9 hb hy]
 dsimp only
 rw[if_pos ⟨rfl,hne⟩,Su]
theorem Sw{a:List Nd}(ha:Valid a){x:Nd}(hx:x∈a)(q:List UInt8)(s:Option Nd):zC q s (OG x.1)=s:=by
 unfold zC
 rw[ya ha hx,if_neg (fun h=>absurd (show(1:Int)=0 from h.1) (by decide))]
theorem Sx{b:List Nd}(hb:Valid b){y:Nd}(hy:y∈b)(q:List UInt8):vV q (mN y)=false:=by
 unfold vV
 rw[x9 hb hy]
 rfl
theorem Sy{a b:List Nd}(ha:Valid a)(hb:Valid b)(q:List UInt8):(cl a b).1.foldl (zC q) (FQ q (cl a b).1 (yh a q))=yh b q:=by
 by_cases U5:∃y∈b,y.1=q
 ·obtain⟨y,hy,eq⟩:=U5
  rw[(qj hb.ord).2 ⟨hy,eq⟩]
  have hq:q≠[]:=by rw[←eq];exact va (hb.may y hy)
  have hkeep:∀e∈(cl a b).1,zC q (some y) e=some y:=fun e he=>by
   rcases(vf ha hb).1 he with ⟨y',hy',_,rfl⟩|⟨x,hx,_,_,rfl⟩
   ·rw[AX hb hy']
    unfold LK
    by_cases h1:q=y'.1
    ·rw[if_pos h1,hb.ord.uniq hy hy' (eq.trans h1)]
    ·rw[if_neg h1]
     by_cases h2:bM (parts q) (parts y'.1)=true∧y'.2.1≠2
     ·exfalso
      obtain⟨d,hd,e1,k⟩:=oQ hb (va (hb.may y' hy')) _ y hy (Nat.le_refl _) (by rw[eq];exact h2.1)
      rw[hb.ord.uniq hd hy' e1] at k
      exact h2.2 k
     ·rw[if_neg h2]
      by_cases h3:bM (parts y'.1) (parts q)=true∧q≠[]
      ·rw[if_pos h3]
       obtain⟨d,hd,e1,k⟩:=oQ hb hq _ y' hy' (Nat.le_refl _) h3.1
       rw[hb.ord.uniq hd hy (e1.trans eq.symm)] at k
       unfold FP
       simp only[if_pos k]
      ·rw[if_neg h3]
   ·exact Sw ha hx q _
  by_cases VY:y∈a
  ·have hs:FQ q (cl a b).1 (yh a q)=some y:=by
    unfold FQ
    rw[if_neg,(qj ha.ord).2 ⟨VY,eq⟩]
    intro Yz
    obtain⟨e,he,hc⟩:=List.any_eq_true.1 Yz
    rcases(vf ha hb).1 he with ⟨y',hy',_,rfl⟩|⟨x,hx,hno,_,rfl⟩
    ·rw[Sx hb hy'] at hc;cases hc
    ·unfold vV at hc
     rw[ya ha hx] at hc
     simp only[bC,Bool.or_eq_true,Bool.and_eq_true,decide_eq_true_eq] at hc
     rcases hc with ⟨_,h|h⟩|⟨h,_⟩
     ·exact hno y hy (eq.trans h)
     ·obtain⟨d,hd,e1,_⟩:=oQ hb (va (ha.may x hx)) _ y hy (Nat.le_refl _) (by rw[eq];exact h)
      exact hno d hd e1
     ·exact absurd h (by decide)
   rw[hs]
   exact yb _ hkeep
  ·refine LQ _ hkeep ⟨mN y,(vf ha hb).2 (.inl ⟨y,hy,VY,rfl⟩),fun s=>?_⟩ _
   rw[AX hb hy]
   unfold LK
   rw[if_pos eq.symm]
 ·have hnb:∀y∈b,y.1≠q:=fun y hy e=>U5 ⟨y,hy,e⟩
  rw[TV.2 hnb]
  have hkeep:∀e∈(cl a b).1,zC q none e=none:=fun e he=>by
   rcases(vf ha hb).1 he with ⟨y',hy',_,rfl⟩|⟨x,hx,_,_,rfl⟩
   ·rw[AX hb hy']
    unfold LK
    rw[if_neg (fun h=>hnb y' hy' h.symm)]
    by_cases h2:bM (parts q) (parts y'.1)=true∧y'.2.1≠2
    ·rw[if_pos h2]
    ·rw[if_neg h2,if_neg]
     rintro⟨h3,hq⟩
     obtain⟨d,hd,e1,_⟩:=oQ hb hq _ y' hy' (Nat.le_refl _) h3
     exact hnb d hd e1
   ·exact Sw ha hx q _
  have hnone:FQ q (cl a b).1 none=none:=by unfold FQ;split<;>rfl
  cases hq:yh a q with
  | none=>rw[hnone];exact yb _ hkeep
  | some x =>
    obtain⟨hx,e⟩:=at_mem hq
    rcases goes ha hb _ x hx (Nat.le_refl _) (fun y hy ey=>hnb y hy (ey.trans e)) with ⟨ev,h1,h2⟩|⟨y,hy,h1,h2,h3⟩
    ·have:FQ q (cl a b).1 (some x)=none:=by
      unfold FQ
      rw[if_pos (List.any_eq_true.2 ⟨ev,h1,by rw[←e];exact h2⟩)]
     rw[this]
     exact yb _ hkeep
    ·refine LQ _ hkeep ⟨mN y,h1,fun s=>?_⟩ _
     rw[AX hb hy]
     unfold LK
     rw[if_neg (fun h=>hnb y hy h.symm),if_pos ⟨by rw[←e];exact h3,h2⟩]
theorem LR{a b:List Nd}(ha:Valid a)(hb:Valid b):so (cl a b).1=true:=by
 unfold so
 rw[List.all_eq_true]
 intro e he
 rcases(vf ha hb).1 he with ⟨y',hy',_,rfl⟩|⟨x,hx,_,_,rfl⟩
 ·rw[x9 hb hy']
 ·rw[ya ha hx]
theorem P6{α:Type}[DecidableEq α]:∀(l m:List α),l.Nodup→(∀x∈l,x∈m)→l.length≤m.length:=by
 intro l
 induction l with
 | nil=>intro m _ _;simp
 | cons x r ih =>
   intro m hn hs
   rw[List.nodup_cons] at hn
   have hx:=hs x (List.mem_cons_self ..)
   have:=ih (m.erase x) hn.2 (fun y hy=>(List.mem_erase_of_ne (fun e:y=x=>hn.1 (e▸hy))).2 (hs y (List.mem_cons_of_mem _ hy)))
   rw[List.length_erase_of_mem hx] at this
   have:=List.length_pos_of_mem hx
   simp only[List.length_cons]
   omega
def Of(ks:List (List UInt8))(t:List Nd):Prop:=∀x∈t,x.1∈ks
theorem Of.len{ks:List (List UInt8)}{t:List Nd}(h:Of ks t)(ho:Ord t):t.length≤ks.length:=by
 have hn:(t.map (·.1)).Nodup:=by
  have:=rC.1 ho
  unfold List.Nodup
  rw[List.pairwise_map]
  exact this.imp fun hlt=>tE hlt
 have:=P6 (t.map (·.1)) ks hn (fun q hq=>by
  obtain⟨x,hx,rfl⟩:=List.mem_map.1 hq
  exact h x hx)
 rwa [List.length_map] at this
theorem LS{ks:List (List UInt8)}(hk:ks.length<64){t:List Nd}{n:Nd}(hv:Valid t)(hm:dK n=true)(h:Has t (aJ n.1).1)(ht:Of ks t)(hn:n.1∈ks) :
  (aX t n).2=0∧n∈(aX t n).1∧Of ks (aX t n).1:=by
 have h0:(aX t n).2=0:=by
  rcases Sj hv hm h with ⟨h0,_⟩|h5
  ·exact h0
  ·exfalso
   have hlen:=ht.len hv.ord
   unfold aX at h5
   split at h5
   ·cases h5
   ·split at h5
    ·cases h5
    ·split at h5
     ·cases h5
     ·have hf:∀P:Nd→Bool,(t.filter P).length≤t.length:=fun P=>List.length_filter_le _ _
      have key:∀r:List Nd,r.length≤t.length→(if 64≤r.length then(([]:List Nd),(5:Int)) else(oM r n,0)).2≠5:=fun r hr=>by
       rw[if_neg (by omega)]
       exact fun q=>absurd (show(0:Int)=5 from q) (by decide)
      refine key _ ?_ h5
      split
      ·exact hf _
      ·exact hf _
 rcases zy t n with ⟨_,h2⟩|⟨h1,h2,h3,r,h4,h5,h6⟩
 ·exact absurd h0 h2
 refine⟨h0,?_,?_⟩
 ·rw[h6];exact lN.2 (.inl rfl)
 ·rw[h6]
  intro x hx
  rcases lN.1 hx with e|hx
  ·rw[e];exact hn
  ·exact ht x (h4.sub.1 x hx).1
theorem P7{ks:List (List UInt8)}(hk:ks.length<64){ns:List (List UInt8)}(h:B5 ns)(n:Nat)(hn:n≤ns.length)(hm:preB ns n=true)(hks:∀j,j<n→cA ns j∈ks):∀(d i:Nat) (t:List Nd),i+d=n→Valid t→Has t (az (ns.take i))→Of ks t →
  (fW ((ns.take n).drop i) (az (ns.take i)) t).2=0∧Has (fW ((ns.take n).drop i) (az (ns.take i)) t).1 (az (ns.take n))∧Of ks (fW ((ns.take n).drop i) (az (ns.take i)) t).1:=by
 intro d
 induction d with
 | zero =>
   intro i t hi hv hh ht
   obtain rfl:i=n:=by omega
   rw[List.drop_of_length_le (by rw[List.length_take];omega)]
   exact⟨rfl,hh,ht⟩
 | succ d ih =>
   intro i t hi hv hh ht
   have hx:ns[i]?=some ns[i]:=List.getElem?_eq_getElem (by omega)
   have LF:(ns.take n).drop i=ns[i]::(ns.take n).drop (i+1):=by
    rw[List.drop_eq_getElem_cons (by rw[List.length_take];omega),List.getElem_take]
   have hj:=mu h.1 hx
   have Gk:cA ns i=az (ns.take (i+1)):=rfl
   rw[LF]
   unfold fW
   rw[hj]
   split
   ·rename_i hc
    obtain⟨m1,m2⟩:=PY hc.1
    rw[Gk]
    exact ih (i+1) t (by omega) hv (.inr ⟨_,m1,by rw[m2,Gk],hc.2⟩) ht
   ·have hmay:dK (ew 493 (cA ns i))=true:=by
     unfold preB at hm
     rw[List.all_eq_true] at hm
     exact Sk (hm i (List.mem_range.2 (by omega)))
    obtain⟨p0,p1,p2⟩:=LS hk hv hmay (by
     show Has t (aJ (cA ns i)).1
     rw[Fy h.1 (by omega)]
     exact hh) ht (hks i (by omega))
    rw[if_pos p0,Gk]
    exact ih (i+1) _ (by omega) (su p0) (.inr ⟨_,p1,rfl,rfl⟩) p2
theorem P8{ks:List (List UInt8)}(hk:ks.length<64){ns:List (List UInt8)}(h:B5 ns){n:Nd}(hn:n.1=az ns)(hm:dK n=true)(hp:kZ ns=true)(hks:∀j,j<ns.length→cA ns j∈ks){t:List Nd}(hv:Valid t)(ht:Of ks t):(ob ns t n).2=0∧Of ks (ob ns t n).1:=by
 have hlt:ns.take (ns.length-1)=ns.dropLast:=List.dropLast_eq_take.symm
 unfold kZ at hp
 simp only[Bool.and_eq_true,decide_eq_true_eq] at hp
 have hpre:preB ns (ns.length-1)=true:=by
  have:=hp.1
  rw[Jx hp.2] at this
  simp only[Bool.and_eq_true] at this
  exact this.1
 have hpos:0<ns.length:=List.length_pos_iff.2 hp.2
 have hd:=P7 hk h (ns.length-1) (by omega) hpre (fun j hj=>hks j (by omega)) (ns.length-1) 0 t (by omega) hv (.inl (by simp[az])) ht
 have Qi:az (ns.take 0)=[]:=by simp[az]
 rw[List.drop_zero,hlt,Qi] at hd
 obtain⟨d0,d1,d2⟩:=hd
 have hnk:n.1∈ks:=by
  have:=hks (ns.length-1) (by omega)
  unfold cA at this
  rw[show ns.length-1+1=ns.length by omega,List.take_length,←hn] at this
  exact this
 unfold ob
 rw[if_pos d0]
 have Gi:=xb _ _ _ hv d0
 obtain⟨p0,p1,p2⟩:=LS hk Gi hm (by rw[hn,p7 h.1];exact d1) d2 hnk
 exact⟨p0,p2⟩
theorem Sz{ks:List (List UInt8)}(hk:ks.length<64):∀(ps:List Pt) (t:List Nd),so ps=true→(∀e∈ps,(bu e).1=0→∀j,j<(bu e).2.1.length→cA (bu e).2.1 j∈ks)→Valid t→Of ks t→(ve ps t).2=0:=by
 intro ps
 induction ps with
 | nil=>intro t _ _ _ _;rfl
 | cons p r ih =>
   intro t ha hks hv ht
   unfold so at ha
   simp only[List.all_cons,Bool.and_eq_true] at ha
   have hput:(jQ t p).2=0∧Of ks (jQ t p).1:=by
    unfold jQ
    split
    ·rename_i hc
     obtain⟨m1,m2⟩:=NQ ha.1 hc.1 hc.2
     exact P8 hk (p8 p) rfl m1 m2 (hks p (List.mem_cons_self ..) hc.1) hv ht
    ·exact⟨rfl,ht⟩
   unfold ve
   rw[if_pos hput.1]
   exact ih _ ha.2 (fun e he=>hks e (List.mem_cons_of_mem _ he)) (sV hv hput.1) hput.2
theorem leads{a b:List Nd}(ha:Valid a)(hb:Valid b)(uQ:a.length+b.length<64):vU a (cl a b).1=(b,0):=by
 have hall:=LR ha hb
 have hl:vU a (cl a b).1=ve (cl a b).1 ((cl a b).1.foldl p9 a):=by unfold vU;rw[if_pos ha,if_pos hall]
 have Zp:=xd (cl a b).1 a ha
 have XR:Of ((a++b).map (·.1)) ((cl a b).1.foldl p9 a):=fun x hx=>by
  have h1:=(qj Zp.ord).2 ⟨hx,rfl⟩
  rw[Ie _ a ha] at h1
  unfold FQ at h1
  split at h1
  ·cases h1
  ·obtain⟨h2,_⟩:=at_mem h1
   exact List.mem_map.2 ⟨x,List.mem_append_left _ h2,rfl⟩
 have h0:(vU a (cl a b).1).2=0:=by
  rw[hl]
  refine Sz (ks:=(a++b).map (·.1)) (by rw[List.length_map,List.length_append];exact uQ) _ _ hall (fun e he hm j hj=>?_) Zp XR
  rcases(vf ha hb).1 he with ⟨y,hy,_,rfl⟩|⟨x,hx,_,_,rfl⟩
  ·rw[x9 hb hy] at hj⊢
   dsimp only at hj⊢
   obtain⟨_,h2,_⟩:=kW (oN (hb.may y hy)).1
   by_cases Ev:j+1=(parts y.1).length
   ·refine List.mem_map.2 ⟨y,List.mem_append_right _ hy,?_⟩
    unfold cA
    rw[Ev,List.take_length,bC]
   ·have hu:=(B8 (xe h2) (cA (parts y.1) j)).1 ⟨j,Nat.zero_le _,by omega,rfl⟩
    obtain⟨d,hd,e,_⟩:=oQ hb hu.2 _ y hy (Nat.le_refl _) hu.1
    exact List.mem_map.2 ⟨d,List.mem_append_right _ hd,e⟩
  ·rw[ya ha hx] at hm
   exact absurd (show(1:Int)=0 from hm) (by decide)
 obtain⟨hv,gz⟩:=Vs ha hall h0
 have:(vU a (cl a b).1).1=b:=Vp hv.ord hb.ord fun q=>by rw[gz,Sy ha hb q]
 exact Prod.ext this h0
theorem SA:Nv 0 2097152:=⟨by decide,by decide⟩
theorem VB:Nv 0 8589934592:=⟨by decide,by decide⟩
theorem NT{a b:List Nd}(ha:Valid a)(hb:Valid b):∀e∈(cl a b).1,yg e∧e.2.1.length≤8192:=fun e he=>by
 have Uu:∀{p:List UInt8},(parts p).all gp=true→AO p:=fun {p} h c hc e=>by
  have hj:=bC p
  have key:∀l:List (List UInt8),(∀x∈l,gp x=true)→∀c∈az l,c≠0:=by
   intro l
   induction l with
   | nil=>intro _ c hc;cases hc
   | cons x r ih =>
     intro hl c hc
     have hx:∀c∈x,c≠0:=fun c hc e=>by
      have:=hl x (List.mem_cons_self ..)
      unfold gp at this
      exact(of_decide_eq_true this).2.2.2.2 (e▸hc)
     cases r with
     | nil=>exact hx c hc
     | cons y r =>
       unfold az at hc
       rcases List.mem_append.1 hc with hc|hc
       ·exact hx c hc
       ·rcases List.mem_cons.1 hc with hc|hc
        ·rw[hc];decide
        ·exact ih (fun z hz=>hl z (List.mem_cons_of_mem _ hz)) c hc
  rw[←hj] at hc
  exact key _ (fun x hx=>List.all_eq_true.1 h x hx) c hc e
 rcases(vf ha hb).1 he with ⟨y,hy,_,rfl⟩|⟨x,hx,_,_,rfl⟩
 ·have hm:=hb.may y hy
  obtain⟨hp,m0,m1,hk⟩:=oN hm
  obtain⟨h1,h2,h3,h4,_,_⟩:=kW hp
  have YA:=FM hm
  have L8:=Uu h2
  have hlen:len y.2.2.2.1=(y.2.2.2.1.length:Int):=rfl
  refine⟨⟨⟨⟨m0,by show y.2.2.1<2097152;omega⟩,SA,SA,⟨by show 0≤len y.2.2.2.1;omega,by show len y.2.2.2.1<8589934592;omega⟩,VB,?_,?_⟩,rfl⟩,YA.2.2⟩
  ·unfold mN TI
   dsimp only
   split
   ·refine⟨by simp,by rw[List.length_append,List.length_singleton];omega,fun c hc=>?_⟩
    rcases List.mem_append.1 hc with hc|hc
    ·exact L8 c hc
    ·rw[List.mem_singleton] at hc;rw[hc];decide
   ·exact⟨h1,by omega,L8⟩
  ·unfold CN at hk
   unfold kindOk mN
   dsimp only
   split at hk
   ·rename_i k
    have:=of_decide_eq_true hk
    exact .inl ⟨k,this.1⟩
   ·split at hk
    ·rename_i k
     have:=of_decide_eq_true hk
     exact .inr (.inl ⟨k,this.1,by rw[this.2];rfl⟩)
    ·split at hk
     ·rename_i k
      have:=of_decide_eq_true hk
      exact .inr (.inr ⟨k,⟨this.2.1,by have:=this.2.2.1;omega,fun c hc e=>this.2.2.2 (e▸hc)⟩,by rw[this.1];rfl⟩)
     ·cases hk
 ·have hm:=ha.may x hx
  have hw:=ya ha hx
  obtain⟨h1,h2,h3,h4,h5,h6⟩:=kW (oN hm).1
  have hlen:=Ig (aJ x.1).1 ([46,119,104,46]++(aJ x.1).2)
  have hsum:=B9 x.1
  have L8:=Uu h2
  have hsub:∀c,c∈(aJ x.1).1∨c∈(aJ x.1).2→c∈x.1:=fun c hc=>by
   rcases iW x.1 with ⟨_,e⟩|⟨p,s,e1,_,e⟩
   ·rw[e] at hc
    rcases hc with hc|hc
    ·cases hc
    ·exact hc
   ·rw[e] at hc
    rw[e1]
    rcases hc with hc|hc
    ·exact List.mem_append_left _ hc
    ·exact List.mem_append_right _ (List.mem_cons_of_mem _ hc)
  rw[List.length_append] at hlen
  simp only[List.length_cons,List.length_nil] at hlen
  refine⟨⟨⟨SA,SA,SA,VB,VB,?_,.inl ⟨rfl,rfl⟩⟩,rfl⟩,by simp[OG]⟩
  unfold OG TI
  dsimp only
  refine⟨?_,by omega,fun c hc=>?_⟩
  ·unfold gM
   split<;>simp
  ·have Zq:∀c∈([46,119,104,46]:List UInt8),c≠0:=by decide
   unfold gM at hc
   split at hc
   ·rcases List.mem_append.1 hc with hc|hc
    ·exact L8 c (hsub c (.inl hc))
    ·rcases List.mem_append.1 hc with hc|hc
     ·exact Zq c hc
     ·exact L8 c (hsub c (.inr hc))
   ·rcases List.mem_append.1 hc with hc|hc
    ·exact L8 c (hsub c (.inl hc))
    ·rcases List.mem_cons.1 hc with hc|hc
     ·rw[hc];decide
     ·rcases List.mem_append.1 hc with hc|hc
      ·exact Zq c hc
      ·exact L8 c (hsub c (.inr hc))
end Go.Ge
namespace Go.Ge
set_option linter.unusedVariables false
set_option maxRecDepth 100000
abbrev AY:=(List (Sb×Int×Int×Sb×Sb×Unit))
noncomputable def jg(x:AY×AY×Unit):Option (Bool×Unit) :=
 ah (mI (x.1,((30:Int),()))) (fun(y1:Bool×Unit)=>ah (au (nt (nt y1.1))
 (ah (mI (x.2.1,((30:Int),()))) (fun(y2:Bool×Unit)=>some (nt y2.1)))
 (some true)) (fun(y2:Bool)=>ah (au (nt y2)
 (ah (gX (x.1,())) (fun(y3:Bool×Unit)=>some (nt y3.1)))
 (some true)) (fun(y3:Bool)=>ah (au (nt y3)
 (ah (gX (x.2.1,())) (fun(y4:Bool×Unit)=>some (nt y4.1)))
 (some true)) (fun(y4:Bool)=>au y4
 (ah (gY ()) (fun(y5:Bool×Unit)=>some (y5.1,())))
 (ah (jH (x.1,(x.2.1,()))) (fun(y5:(List ((Sb×Int×Int×Int×Int×Int×Int×Sb×Unit)×Sb×Unit))×Int×Unit)=>ah (sP (x.1,(y5.1,()))) (fun(y6:AY×Int×Unit)=>ah (lK (x.1,(y5.1,()))) (fun(y7:AY×Int×Unit)=>ah (au (nt (au (nt (au (nt (nt (bp y5.2.1 (0:Int))))
 (nt (bp y6.2.1 (0:Int)))
 true))
 (nt (bp y7.2.1 (0:Int)))
 true))
 (ah (gI (y6.1,(x.2.1,()))) (fun(y8:Bool×Unit)=>some (nt y8.1)))
 (some true)) (fun(y8:Bool)=>ah (au (nt y8)
 (ah (gI (y7.1,(x.2.1,()))) (fun(y9:Bool×Unit)=>some (nt y9.1)))
 (some true)) (fun(y9:Bool)=>au y9
 (some (false,()))
 (ah (nH (x.1,(x.2.1,()))) (fun(vF:Sb×Int×Unit)=>au (nt (bp vF.2.1 (0:Int)))
 (ah (au (au (bp vF.2.1 (5:Int))
 (bZ vF.1 ([]:List (UInt8)))
 false)
 (ah (gY ()) (fun(uk:Bool×Unit)=>some uk.1))
 (some false)) (fun(uk:Bool)=>some (uk,())))
 (ah (lV (x.1,(vF.1,()))) (fun(uk:AY×Int×Unit)=>ah (au (bp uk.2.1 (0:Int))
 (ah (gI (uk.1,(x.2.1,()))) (fun(Ji:Bool×Unit)=>some Ji.1))
 (some false)) (fun(Ji:Bool)=>ah (au Ji
 (ah (gY ()) (fun(CI:Bool×Unit)=>some CI.1))
 (some false)) (fun(CI:Bool)=>some (CI,())))))))))))))))))
end Go.Ge
namespace Go.Ge
set_option linter.unusedVariables false
set_option linter.unusedSimpArgs false
theorem Il(l:List Nd):∃b,mI (l,((30:Int),()))=some (b,())∧(b=true→l.length≤30∧mM l):=PE l 30 30 rfl (by omega)
theorem FW(a b:List Nd):jg (a,(b,()))=some (true,()):=by
 obtain⟨f1,e1,g1⟩:=Il a
 obtain⟨f2,e2,g2⟩:=Il b
 unfold jg
 dsimp only
 rw[e1,aa]
 dsimp only
 cases XG:f1 with
 | false=>rw[show nt (nt false)=false from rfl,ag,aa,aT,ag,aa,aT,ag,aa,af,x8];rfl
 | true =>
 obtain⟨la,ha⟩:=g1 XG
 rw[show nt (nt true)=true from rfl,af,e2,aa,aa]
 dsimp only
 cases hf2:f2 with
 | false=>rw[show nt (nt false)=false from rfl,ag,aa,aT,ag,aa,af,x8];rfl
 | true =>
 obtain⟨lb,hb⟩:=g2 hf2
 obtain⟨v,v1,v2⟩:=mq a ha
 obtain⟨w,w1,w2⟩:=mq b hb
 rw[show nt (nt true)=true from rfl,af,v1,aa,aa]
 dsimp only
 cases hv:v with
 | false=>rw[show nt (nt false)=false from rfl,ag,aa,af,x8];rfl
 | true =>
 have W4:Valid a:=v2.1 hv
 rw[show nt (nt true)=true from rfl,af,w1,aa,aa]
 dsimp only
 refine P5 fun hc=>?_
 have hvb:Valid b:=w2.1 (by cases w with|true=>rfl|false=>cases hc)
 have hps:=Ih ha hb (by omega) (by omega)
 have Uk:NL (cl a b).1:=⟨by have:=hps.many;omega,fun p hp=>⟨hps.path p hp,hps.link p hp,hps.data p hp⟩⟩
 have hl:=leads W4 hvb (by omega)
 have VK:(cl a b).2=0:=by unfold cl;rw[if_pos ⟨W4,hvb⟩]
 rw[zD a b ha hb,aa]
 dsimp only
 rw[NP a _ ha Uk,OB a _ ha Uk,hl,VK,aa,aa]
 dsimp only
 rw[Lr b b (by omega),aa,decide_eq_true rfl,LM a b ha hb (by omega) (by omega)]
 dsimp only
 rw[show(au (nt (au (nt (au (nt (nt (bp 0 0))) (nt (bp 0 0)) true)) (nt (bp 0 0)) true)) (some (nt true)) (some true):Option Bool)=some false from rfl,aa,aO,af,aa,aa,aT,ag]
 dsimp only
 have hok:=NT W4 hvb
 have hd:FU a b=tD (cl a b).1:=by unfold FU;rw[if_pos VK]
 have VC:(cl a b).1.length≤64:=by
  unfold cl
  rw[if_pos ⟨W4,hvb⟩]
  have h1:=FT (sw b) (JE b) (rD a b)
  have h2:=JB _ a b (Nat.le_refl _)
  dsimp only
  omega
 rw[hd]
 by_cases hbig:7168<(jU (cl a b).1).length
 ·have hw:tD (cl a b).1=([],5):=by
   unfold tD
   rw[if_neg (by omega),if_pos fun p hp=>(hok p hp).1,if_pos hbig]
  rw[hw,x8]
  rfl
 ·have hw:tD (cl a b).1=(jU (cl a b).1++aE 1024,0):=by
   unfold tD
   rw[if_neg (by omega),if_pos fun p hp=>(hok p hp).1,if_neg hbig]
  rw[hw]
  dsimp only
  have hr:=TS (cl a b).1 2 (by omega) (fun p hp=>(hok p hp).1) (fun p hp=>(hok p hp).2) VC (by rw[List.length_append,aN];omega)
  have Gr:=PZ (s:=jU (cl a b).1++aE 1024) hr Uk W4
  rw[hl] at Gr
  rw[Gr,show nt (bp 0 0)=false from rfl,ag,aa,if_pos rfl]
  dsimp only
  rw[Lr b b (by omega),decide_eq_true rfl,x8]
  rfl
end Go.Ge
