/- A ghost interpreter of the model's code, and that it tells the truth: part 7. It says of a function of plain data what a call of it comes to. -/
import Derived.Test.YtbaijbjhkmoidaaGreatDoorGeF
import Derived.Tactics
set_option linter.unusedVariables false
set_option linter.unusedSimpArgs false
set_option linter.unusedSectionVars false
namespace Go.Ge
open RowKit
def aN(σ σ':St):Prop:=∀b bx,σ.mem b=some bx→bx.lk=true→σ'.mem b=some bx
theorem aN.refl(σ:St):aN σ σ:=fun _ _ h _=>h
theorem aN.trans{σ σ' NF:St}(h:aN σ σ')(k:aN σ' NF):aN σ NF:=fun b bx hb hl=>k b bx (h b bx hb hl) hl
theorem aN.put(σ:St)(d:Nat)(v:ay):aN σ (σ.put d v):=fun _ _ h _=>h
theorem aN.aD(σ:St)(d:Option Nat)(v:ay):aN σ (σ.aD d v):=by cases d<;>exact fun _ _ h _=>h
theorem aN.Lt{σ σ':St}(h:σ'.mem=σ.mem):aN σ σ':=fun b bx hb _=>by rw[h];exact hb
theorem fR{σ:St}{b:Nat}{bx:aY}(h:∀cc,σ.mem b=some cc→cc.lk=false):aN σ (σ.bJ b bx):=fun c cx hc hl=>by
 by_cases e:c=b
 ·subst e;rw[h cx hc] at hl;cases hl
 ·rw[nS,aB _ e];exact hc
theorem gK{β:Type}{σ:St}{b:Nat}{val:ay}{tid:TypeId}{buf:Bool}{k:Nat→St→Tree β}{y:β}(h:(σ.aA b val tid buf k).run=some y) :
  ∃aj,aN σ (σ.bJ b { val,tid,buf,ro:=false,lk:=false,aj })∧(k aj (σ.bJ b { val,tid,buf,ro:=false,lk:=false,aj })).run=some y:=by
 unfold St.aA at h;split at h
 ·rename_i bx hb;cases hl:bx.lk with
  | true=>rw[hl] at h;cases h
  | false =>
    rw[hl] at h;exact⟨bx.aj+1,fR (fun cc h0=>by rw[hb] at h0;obtain rfl:=ax h0;exact hl),h⟩
 ·rename_i hb;exact⟨0,fR (fun cc h0=>by rw[hb] at h0;cases h0),h⟩
theorem xO{σ σ':St}{b:Nat}(h:freeze σ b=some σ'):aN σ σ':=by
 unfold freeze at h;split at h
 ·rename_i bx hb;cases hro:bx.ro with
  | true=>simp only[hro,jk,jU] at h;rw[←h];exact aN.refl _
  | false =>
    cases hlk:bx.lk with
    | true=>simp[hro,hlk] at h
    | false =>
      simp only[hro,hlk,gj,jU] at h;rw[←h];exact fR fun cc h0=>by rw[hb] at h0;obtain rfl:=ax h0;exact hlk
 ·cases h
theorem Db:∀{v:ay} {σ σ':St},eT σ v=some σ'→aN σ σ':=by
 intro v;induction v with
 | mix p q pY pg =>
   intro σ σ' h;obtain⟨σ1,h1,h2⟩:=oD h;exact(pY h1).trans (pg h2)
 | whole b aj=>intro σ σ' h;exact xO h
 | part b aj lo n=>intro σ σ' h;exact xO h
 | _=>intro σ σ' h;obtain rfl:=ax h;exact aN.refl _
theorem jR{t:Ty}{x:t.den}{v:ay}{σ σ':St}(h:pP σ t v=some (x,σ')):aN σ σ':=by
 unfold pP at h;split at h
 ·split at h
  ·obtain⟨_,rfl⟩:=cr (ax h);exact aN.refl _
  ·cases h
 ·split at h
  ·rename_i y σ1 hl hf;obtain⟨_,rfl⟩:=cr (ax h);exact Db hf
  ·cases h
theorem ko:∀{A:Ty} {x:A.den} {vs:List ay} {σ σ':St},gM σ A vs=some (x,σ')→aN σ σ':=by
 intro A;induction A with
 | pair t r F3 ihr =>
   intro x vs σ σ' hl;cases vs with
   | nil=>cases hl
   | cons v vs =>
     simp only[gM] at hl;split at hl
     ·rename_i p σ1 hp;split at hl
      ·rename_i q σ2 hq;obtain⟨_,rfl⟩:=cr (ax hl);exact(jR hp).trans (ihr hq)
      ·cases hl
     ·cases hl
 | unit =>
   intro x vs σ σ' hl;cases vs with
   | nil=>obtain⟨_,rfl⟩:=cr (ax hl);exact aN.refl _
   | cons v vs=>cases hl
 | _=>intro x vs σ σ' hl;cases vs<;>cases hl
theorem yz{t:Ty}:∀{parts:List (Nat×Operand)} {x x':t.den} {σ σ':St},eL σ t x parts=some (x',σ')→aN σ σ':=by
 intro parts;induction parts with
 | nil=>intro x x' σ σ' h;obtain⟨_,rfl⟩:=cr (ax h);exact aN.refl _
 | cons p r ih =>
   obtain⟨k,o⟩:=p;intro x x' σ σ' h;simp only[eL] at h;split at h
   ·split at h
    ·rename_i hg;split at h
     ·exact(jR hg).trans (ih h)
     ·cases h
    ·cases h
   ·cases h
theorem rY{e:Ty}:∀{parts:List (Nat×Operand)} {l l':List e.den} {σ σ':St},eF σ e l parts=some (l',σ')→aN σ σ':=by
 intro parts;induction parts with
 | nil=>intro x x' σ σ' h;obtain⟨_,rfl⟩:=cr (ax h);exact aN.refl _
 | cons p r ih =>
   obtain⟨k,o⟩:=p;intro l l' σ σ' h;simp only[eF] at h;split at h
   ·rename_i hg;cases hlt:Nat.blt k l.length with
    | false=>rw[hlt] at h;cases h
    | true=>rw[hlt] at h;exact(jR hg).trans (ih h)
   ·cases h
theorem vA{b aj:Nat}{p:List uh}{fit:ay→Bool}{u:ay}{σ σ':St}(hr:(storeAt b aj p fit u σ).run=some σ'):aN σ σ':=by
 unfold storeAt at hr;split at hr
 case h_2=>exact absurd hr (by intro k;cases k)
 rename_i bx hb;obtain⟨hc,hr2⟩:=aq hr;simp only[cP,iE] at hc;obtain⟨old,hn,fQ⟩:=bind_some hr2;obtain⟨hfit,iY⟩:=aq fQ;obtain⟨c,hs,Bc⟩:=bind_some iY;obtain rfl:=ax Bc;exact fR fun cc h0=>by rw[hb] at h0;obtain rfl:=ax h0;exact hc.1.2
theorem Dc{b aj:Nat}{p:List uh}{n:Nat}{u:ay}{σ σ':St}(hr:(lC b aj p n u σ).run=some σ'):aN σ σ':=by
 unfold lC at hr;split at hr
 case h_2=>exact absurd hr (by intro k;cases k)
 rename_i bx hb;obtain⟨hc,hr2⟩:=aq hr;simp only[cP,iE] at hc;obtain⟨old,hn,fQ⟩:=bind_some hr2;obtain⟨hfit,iY⟩:=aq fQ;obtain⟨c,hs,Bc⟩:=bind_some iY;obtain⟨R6,QE⟩:=aq Bc;obtain rfl:=ax QE;exact fR fun cc h0=>by rw[hb] at h0;obtain rfl:=ax h0;exact hc.1.1.1.2
theorem zX{cx:Ctx}{bf:List Nat}{ty:TypeId}{x y:ay}{σ σ':St}(hr:(gX cx bf ty x y σ).run=some σ'):aN σ σ':=by
 unfold gX at hr;split at hr
 case h_2=>exact absurd hr (by intro k;cases k)
 split at hr
 case h_2=>exact absurd hr (by intro k;cases k)
 obtain⟨aI,hr2⟩:=aq hr;obtain⟨old,hn,fQ⟩:=bind_some hr2;split at fQ
 ·rename_i u _;obtain⟨hT,iY⟩:=aq fQ;cases hq:b6 bf 8000000&&KX u y with
  | true=>rw[hq] at iY;exact Dc iY
  | false =>
  rw[hq] at iY;replace iY:(match pP σ u y with|some (y,σ)=>storeAt _ _ _ (IX u) (.data u y) σ|none=>.fail).run=some σ':=iY;split at iY
  ·rename_i hg;exact(jR hg).trans (vA iY)
  ·exact absurd iY (by intro k;cases k)
 ·obtain⟨hT,iY⟩:=aq fQ;exact vA iY
theorem rj{cx:Ctx}{nb:Nat}{d:Option Nat}{ty:TypeId}{s x:ay}{σ σ':St}(hr:(fh cx nb d ty s x σ).run=some σ'):aN σ σ':=by
 unfold fh at hr;split at hr
 case h_2=>exact absurd hr (by intro k;cases k)
 split at hr
 case h_2=>exact absurd hr (by intro k;cases k)
 split at hr
 ·obtain⟨hf,hr2⟩:=bK hr;obtain⟨aj,k1,k2⟩:=gK hr2;obtain rfl:=ax k2;exact k1.trans (aN.put _ _ _)
 ·split at hr
  case h_2=>exact absurd hr (by intro k;cases k)
  rename_i bx l hb hl;obtain⟨hlk,gE⟩:=qC hr;have hlk:=(Bool.or_eq_false_iff.1 hlk).1;obtain⟨hf,hr2⟩:=bK gE;obtain rfl:=ax hr2;exact(fR fun cc h0=>by rw[hb] at h0;obtain rfl:=ax h0;exact hlk).trans (aN.put _ _ _)
 ·exact absurd hr (by intro k;cases k)
theorem pn{e:Ty}{m:List e.den}{b aj:Nat}{q:List uh}{KT:Nat→Ty→Bool}{lo:Int}{σ σ':St}(hr:(gB e m b aj q KT lo σ).run=some σ'):aN σ σ':=by
 unfold gB at hr;split at hr
 case h_2=>exact absurd hr (by intro k;cases k)
 rename_i bx hb;obtain⟨hc,hr2⟩:=aq hr;simp only[cP,iE] at hc;have fin:∀{fM:aY},aN σ (σ.bJ b fM):=fun {fM}=>fR fun cc h0=>by rw[hb] at h0;obtain rfl:=ax h0;exact hc.1.2
 split at hr2
 ·split at hr2
  ·split at hr2
   ·obtain rfl:=ax hr2;exact fin
   ·exact absurd hr2 (by intro k;cases k)
  ·exact absurd hr2 (by intro k;cases k)
 ·obtain⟨old,_,fQ⟩:=bind_some hr2;split at fQ
  ·obtain⟨_,iY⟩:=aq fQ;split at iY
   ·obtain⟨c,_,Bc⟩:=bind_some iY;obtain rfl:=ax Bc;exact fin
   ·exact absurd iY (by intro k;cases k)
  ·exact absurd fQ (by intro k;cases k)
theorem xP{e:Ty}{mf:Int→List e.den}{t:ay}{σ:St}{r:Int×St}(hr:(wG e mf t σ).run=some r):aN σ r.2:=by
 unfold wG at hr;split at hr
 ·obtain⟨σ1,h1,h2⟩:=bind_some hr;obtain rfl:=ax h2;exact pn h1
 ·split at hr
  ·obtain⟨σ1,h1,h2⟩:=bind_some hr;obtain rfl:=ax h2;exact pn h1
  ·exact absurd hr (by intro k;cases k)
 ·obtain⟨σ1,h1,h2⟩:=bind_some hr;obtain rfl:=ax h2;exact pn h1
 ·exact absurd hr (by intro k;cases k)
theorem EM{mem:Nat→Option aY}:∀{o:OT} {v:ay} {u:o.den} {N M:List (Nat×Nat)},cj mem o v=some (u,N,M)→∀b∈aT N M,∀bx,mem b=some bx→bx.lk=false:=by
 intro o;induction o with
 | dat t =>
   intro v u N M h;unfold cj at h;split at h
   ·cases h;intro b hb;cases hb
   ·cases h
 | buf e cq =>
   intro v u N M h;unfold cj at h;split at h
   case h_2=>cases h
   rename_i b aj;split at h
   case h_2=>cases h
   rename_i bx hb;cases hcd:(Nat.beq bx.aj aj&&bx.buf&&!bx.lk&&!bx.ro&&Nat.beq bx.tid cq&&Nat.blt 0 e.size) with
   | false=>rw[hcd] at h;cases h
   | true =>
     rw[hcd] at h;simp only[cP,iE] at hcd;simp only[jk] at h;split at h
     case h_2=>cases h
     split at h
     case h_2=>cases h
     cases h;intro c hc cx D4;have:c=b:=by simpa [aT] using hc
     subst this;rw[hb] at D4;obtain rfl:=ax D4;exact hcd.1.1.1.2
 | ref tid o ih =>
   intro v u N M h;unfold cj at h;split at h
   case h_2=>cases h
   rename_i b aj;split at h
   case h_2=>cases h
   rename_i bx hb;cases hcd:(Nat.beq bx.aj aj&&!bx.buf&&!bx.lk&&!bx.ro&&Nat.beq bx.tid tid) with
   | false=>rw[hcd] at h;cases h
   | true =>
     rw[hcd] at h;simp only[cP,iE] at hcd;simp only[jk] at h;split at h
     case h_2=>cases h
     rename_i u1 N1 M1 hr;cases h;intro c hc cx D4;unfold aT at hc;simp only[mT,D8,CH] at hc;rcases hc with rfl|hc
     ·rw[hb] at D4;obtain rfl:=ax D4;exact hcd.1.1.2
     ·exact ih hr c hc cx D4
 | pair p q pY pg =>
   intro v u N M h;unfold cj at h;split at h
   case h_2=>cases h
   split at h
   case h_2=>cases h
   rename_i x N1 M1 y N2 M2 h1 h2;cases h;intro c hc cx D4;unfold aT at hc;simp only[tc,D9] at hc;rcases hc with (hc|hc)|(hc|hc)
   ·exact pY h1 c (tC _ hc) cx D4
   ·exact pg h2 c (tC _ hc) cx D4
   ·exact pY h1 c (sK _ hc) cx D4
   ·exact pg h2 c (sK _ hc) cx D4
 | unit =>
   intro v u N M h;unfold cj at h;split at h
   case h_2=>cases h
   cases h;intro b hb;cases hb
theorem Gw{σ:St}:∀{ps:List Bool} {A:Ty} {U:OT} {vs:List ay} {x:A.den} {u:U.den} {N M:List (Nat×Nat)},eG σ ps A U vs=some (x,u,N,M)→∀b∈aT N M,∀bx,σ.mem b=some bx→bx.lk=false:=by
 intro ps;induction ps with
 | nil =>
   intro A U vs x u N M h;cases A<;>first|(cases h;done)|skip
   cases U<;>first|(cases h;done)|skip
   cases vs with
   | cons v r=>cases h
   | nil=>cases h;intro b hb;cases hb
 | cons p ps ih =>
   intro A U vs x u N M h;cases p with
   | false =>
     cases A<;>first|(cases h;done)|skip
     cases vs with
     | nil=>cases h
     | cons v r =>
       simp only[eG] at h;split at h
       ·rename_i h2;cases h;exact ih h2
       ·cases h
   | true =>
     cases U<;>first|(cases h;done)|skip
     rename_i o U;cases o<;>first|(cases h;done)|skip
     cases vs with
     | nil=>cases h
     | cons v r =>
       simp only[eG] at h;split at h
       ·rename_i x1 N1 M1 y1 u1 N2 M2 h1 h2;cases h;intro c hc cx D4;unfold aT at hc;simp only[tc,D9] at hc;rcases hc with (hc|hc)|(hc|hc)
        ·exact EM h1 c (tC _ hc) cx D4
        ·exact ih h2 c (tC _ hc) cx D4
        ·exact EM h1 c (sK _ hc) cx D4
        ·exact ih h2 c (sK _ hc) cx D4
       ·cases h
theorem Dd{ps:List Bool}{A:Ty}{U:OT}{vs:List ay}{x:A.den}{u y:U.den}{N M:List (Nat×Nat)}{σ:St}(h:eG σ ps A U vs=some (x,u,N,M)):aN σ (gN U y N M σ):=fun b bx hb hl=>by
 rw[eX];cases hv:fI U y N (M.map fun p=>(p.1,p.2+1)) b with
 | none=>exact hb
 | some v =>
   have:=Gw h b (by have:=jH hv;rwa [nV] at this) bx hb;rw[hl] at this;cases this
theorem De{s:Ka}{d:Option Nat}{vals:List ay}{σ σ':St}(hr:(sL s d vals σ).run=some σ'):aN σ σ':=by
 unfold sL at hr;split at hr
 ·split at hr
  case h_2=>cases hr
  split at hr
  case h_2=>cases hr
  obtain⟨_,hr2⟩:=aq hr;obtain rfl:=ax hr2;exact aN.aD _ _ _
 ·split at hr
  case h_2=>cases hr
  split at hr
  case h_2=>cases hr
  obtain⟨_,hr2⟩:=aq hr;split at hr2
  case h_2=>cases hr2
  rename_i hx Qj;obtain⟨hcd,fQ⟩:=aq hr2;simp only[cP,iE] at hcd;split at fQ
  case h_2=>cases fQ
  obtain rfl:=ax fQ;exact(fR fun cc h0=>by rw[Qj] at h0;obtain rfl:=ax h0;exact hcd.1.1.2).trans (aN.aD _ _ _)
 ·cases hr
theorem Gx{b aj:Nat}:∀{fs:List jl} {j:Nat} {σ:St} {r:ay×St},(mkObj b aj fs j σ).run=some r→aN σ r.2:=by
 intro fs;induction fs with
 | nil=>intro j σ r hr;obtain rfl:=ax hr;exact aN.refl _
 | cons f q ih =>
   intro j σ r hr;cases f with
   | buf e cq =>
     obtain⟨_,gE⟩:=aq hr;obtain⟨aj,k1,k2⟩:=gK gE;obtain⟨y,h1,h2⟩:=bind_some k2;obtain rfl:=ax h2;have:=ih h1;exact k1.trans this
   | _ =>
     obtain⟨y,h1,h2⟩:=bind_some hr;obtain rfl:=ax h2;have:=ih h1;exact this
theorem Df{b:Nat}:∀{fs:List jl} {j:Nat} {v:ay} {σ:St} {r:ay×St},(jb b fs j v σ).run=some r→aN σ r.2:=by
 intro fs;induction fs with
 | nil =>
   intro j v σ r hr;obtain rfl:=xJ hr;exact aN.refl _
 | cons f q ih =>
   intro j v σ r hr;rcases vm hr with ⟨x,u,y,rfl,h1,rfl⟩|⟨e,cq,u,rfl,he,gE⟩
   ·have:=ih h1;exact this
   ·obtain⟨aj,k1,k2⟩:=gK gE;obtain⟨y,h1,h2⟩:=bind_some k2;obtain rfl:=ax h2;have:=ih h1;exact k1.trans this
theorem EN{cx:Ctx}{inl:Nat→List ay→St→Tree (ay×St)}(iq:∀f vals σ v σ',(inl f vals σ).run=some (v,σ')→aN σ σ'){d:Option Nat}{f:Nat}{vals:List ay}{σ σ':St}
  (hr:(o7 cx inl d f vals σ).run=some σ'):aN σ σ':=by
 unfold o7 at hr;split at hr
 ·split at hr
  ·split at hr
   ·obtain⟨y,hy,hr2⟩:=bE hr;obtain rfl:=ax hr2;exact aN.aD _ _ _
   ·exact absurd hr (by intro k;cases k)
  ·split at hr
   ·rename_i hx;obtain⟨y,hy,hr2⟩:=bE hr;obtain rfl:=ax hr2;exact(ko hx).trans (aN.aD _ _ _)
   ·exact absurd hr (by intro k;cases k)
 ·have vu:((inl f vals σ).bind fun r=>.ret (r.2.aD d r.1):Tree St).run=some σ'→aN σ σ':=by
   intro hr;obtain⟨r,gE,hr2⟩:=bind_some hr;obtain rfl:=ax hr2;exact(iq _ _ _ _ _ gE).trans (aN.aD _ _ _)
  split at hr
  ·exact De hr
  split at hr
  ·rename_i c Tw;split at hr
   ·rename_i x u N M hx;obtain⟨_,hr⟩:=aq hr;obtain⟨y,hy,hr2⟩:=bE hr;obtain rfl:=ax hr2;exact(Dd hx).trans (aN.aD _ _ _)
   ·exact vu hr
  ·exact vu hr
theorem zY{nb:Nat}{e:Ty}{d:Option Nat}{vals:List ay}{σ σ':St}(hr:(hU nb e d vals σ).run=some σ'):aN σ σ':=by
 unfold hU at hr;split at hr
 case h_2=>cases hr
 split at hr
 case h_2=>cases hr
 rename_i hg;obtain⟨_,hr⟩:=aq hr;obtain⟨_,hr⟩:=bK hr;obtain⟨aj,k1,k2⟩:=gK hr;obtain rfl:=ax k2;exact((jR hg).trans k1).trans (aN.aD _ (some _) _)
theorem Dg{e A:Ty}{res:Bool}{spec:List e.den→A.den→Option (List e.den)}{d:Option Nat}{vals:List ay}{σ σ':St}(hr:(lD e A res spec d vals σ).run=some σ'):aN σ σ':=by
 unfold lD at hr;split at hr
 case h_2=>cases hr
 split at hr
 case h_2=>cases hr
 rename_i hg;split at hr
 case h_2=>cases hr
 rename_i b aj bx l OS;obtain⟨l',_,hr⟩:=bE hr;obtain⟨hb,aI,aW,hlk,hro,ez,_⟩:=lZ OS;have key:∀fM,aN _ (St.bJ _ b fM):=fun fM=>fR fun cc h0=>by rw[hb] at h0;obtain rfl:=ax h0;exact hlk
 cases res with
 | true =>
   cases d with
   | none=>cases hr
   | some k=>obtain rfl:=ax hr;exact((ko hg).trans (key _)).trans (aN.aD _ (some _) _)
 | false =>
   cases d with
   | none=>obtain⟨_,hr⟩:=aq hr;obtain rfl:=ax hr;exact((ko hg).trans (key _)).trans (aN.aD _ none _)
   | some k=>obtain⟨_,hr⟩:=aq hr;obtain rfl:=ax hr;exact((ko hg).trans (key _)).trans (aN.aD _ (some _) _)
theorem zZ{nb g:Nat}{d:Option Nat}{vals:List ay}{σ σ':St}(hr:(hY nb g d vals σ).run=some σ'):aN σ σ':=by
 unfold hY at hr;split at hr
 ·cases hr
 ·cases hr
 ·obtain⟨aj,k1,k2⟩:=gK hr;obtain rfl:=ax k2;exact k1.trans (aN.aD _ (some _) _)
 ·cases hr
theorem Dh{cx:Ctx}{nb:Nat}{bf:List Nat}{inl:Nat→List ay→St→Tree (ay×St)}(iq:∀f vals σ v σ',(inl f vals σ).run=some (v,σ')→aN σ σ'){d:Option Nat}{f:Nat}{vals:List ay}{σ σ':St}
  (hr:(mV cx nb bf inl d f vals σ).run=some σ'):aN σ σ':=by
 unfold mV at hr;split at hr
 ·exact zY hr
 ·exact Dg hr
 ·exact zZ hr
 ·exact EN iq hr
end Go.Ge
namespace Go.Ge
open RowKit
def ai(σ:St)(T:Tree St):Prop:=∀y,T.run=some y→aN σ y
theorem ai.fail{σ:St}:ai σ .fail:=fun y h=>by cases h
theorem ai.ret{σ σ':St}(h:aN σ σ'):ai σ (.ret σ'):=fun y hy=>by obtain rfl:=ax hy;exact h
theorem ai.bif{σ:St}{c:Bool}{t:Tree St}(h:ai σ t):ai σ (bif c then t else .fail):=fun y hy=>h y (aq hy).2
theorem ai.need{σ:St}{c:Bool}{t:Tree St}(h:ai σ t):ai σ (.need c t):=fun y hy=>h y (bK hy).2
theorem ai.look{σ:St}{T:Type}{o:Option T}{k:T→Tree St}(h:∀x,ai σ (k x)):ai σ (.look o k):=fun y hy=>by obtain⟨x,_,h2⟩:=bE hy;exact h x y h2
theorem ai.node{σ:St}{c:Bool}{t e:Tree St}(h:ai σ t)(k:ai σ e):ai σ (.node c t e):=fun y hy=>by
 have:=eI hy;cases c with
 | true=>exact h y this
 | false=>exact k y this
theorem ai.bind{σ:St}{α:Type}{t:Tree α}{f:α→Tree St}(h:∀x,t.run=some x→ai σ (f x)):ai σ (t.bind f):=fun y hy=>by obtain⟨x,h1,h2⟩:=bind_some hy;exact h x h1 y h2
theorem ai.aA{σ:St}{b:Nat}{val:ay}{tid:TypeId}{buf:Bool}{d:Nat}{v:Nat→ay}:ai σ (σ.aA b val tid buf fun aj σ=>.ret (σ.put d (v aj))):=fun y hy=>by
 obtain⟨aj,k1,k2⟩:=gK hy;obtain rfl:=ax k2;exact k1.trans (aN.put _ _ _)
section
variable {cx:Ctx} {nb:Nat} {bf:List Nat} {inl:Nat→List ay→St→Tree (ay×St)} {d:Option Nat} {σ:St}
theorem rm{ty:TypeId}{v:ay}:ai σ (gm cx nb bf d ty v σ):=by
 unfold gm;split
 ·(repeat' (first|exact ai.fail|exact ai.ret (aN.aD _ _ _)|exact ai.ret (aN.put _ _ _)|exact ai.aA|refine ai.bif ?_|refine ai.need ?_|refine ai.look fun _=>?_|refine ai.node ?_ ?_|refine ai.bind fun _ _=>?_|split))
 ·split
  ·rename_i k e _;cases b6 bf k with
   | true=>exact ai.aA
   | false=>exact ai.ret (aN.put _ _ _)
  ·exact ai.ret (aN.aD _ _ _)
 ·exact ai.ret (aN.aD _ _ _)
theorem Bo{c a b:ay}:ai σ (ju d c a b σ):=by unfold ju;(repeat' (first|exact ai.fail|exact ai.ret (aN.aD _ _ _)|exact ai.ret (aN.put _ _ _)|exact ai.aA|refine ai.bif ?_|refine ai.need ?_|refine ai.look fun _=>?_|refine ai.node ?_ ?_|refine ai.bind fun _ _=>?_|split))
theorem Bp{ty:TypeId}{a:ay}:ai σ (gR cx d ty a σ):=by unfold gR;(repeat' (first|exact ai.fail|exact ai.ret (aN.aD _ _ _)|exact ai.ret (aN.put _ _ _)|exact ai.aA|refine ai.bif ?_|refine ai.need ?_|refine ai.look fun _=>?_|refine ai.node ?_ ?_|refine ai.bind fun _ _=>?_|split))
theorem z6{ty:TypeId}{x:ay}{lo hi:Option Operand}:ai σ (gY cx d ty x lo hi σ):=by unfold gY;(repeat' (first|exact ai.fail|exact ai.ret (aN.aD _ _ _)|exact ai.ret (aN.put _ _ _)|exact ai.aA|refine ai.bif ?_|refine ai.need ?_|refine ai.look fun _=>?_|refine ai.node ?_ ?_|refine ai.bind fun _ _=>?_|split))
theorem Gy{b aj:Nat}{i:Int}:∀{m k:Nat},ai σ (zk d b aj σ i m k):=by
 intro m;induction m with
 | zero=>intro k;exact ai.fail
 | succ m ih=>intro k;exact ai.node (ai.ret (aN.aD _ _ _)) ih
theorem nX{ty:TypeId}{x:ay}{i:Int}:ai σ (cQ cx d ty x i σ):=by
 unfold cQ;split
 case h_6=>split
           ·exact ai.bif Gy
           ·exact ai.fail
 all_goals (repeat' (first|exact ai.fail|exact ai.ret (aN.aD _ _ _)|exact ai.ret (aN.put _ _ _)|exact ai.aA|refine ai.bif ?_|refine ai.need ?_|refine ai.look fun _=>?_|refine ai.node ?_ ?_|refine ai.bind fun _ _=>?_|split))
theorem z7{ty:TypeId}{x:ay}{i:Int}:ai σ (gZ cx d ty x i σ):=by
 unfold gZ;split
 ·refine ai.bif ?_;split
  ·exact ai.bif (ai.ret (aN.aD _ _ _))
  ·exact ai.fail
 ·exact nX
theorem z8{ty:TypeId}{x:ay}{i:Int}:ai σ (hJ cx d ty x i σ):=by unfold hJ;(repeat' (first|exact ai.fail|exact ai.ret (aN.aD _ _ _)|exact ai.ret (aN.put _ _ _)|exact ai.aA|refine ai.bif ?_|refine ai.need ?_|refine ai.look fun _=>?_|refine ai.node ?_ ?_|refine ai.bind fun _ _=>?_|split))
theorem uA{s:TypeId}{x:ay}{k:Nat}:ai σ (dw cx d s x k σ):=by unfold dw;(repeat' (first|exact ai.fail|exact ai.ret (aN.aD _ _ _)|exact ai.ret (aN.put _ _ _)|exact ai.aA|refine ai.bif ?_|refine ai.need ?_|refine ai.look fun _=>?_|refine ai.node ?_ ?_|refine ai.bind fun _ _=>?_|split))
theorem wZ{s t:TypeId}{x:ay}:ai σ (eW cx nb d s t x σ):=by unfold eW;(repeat' (first|exact ai.fail|exact ai.ret (aN.aD _ _ _)|exact ai.ret (aN.put _ _ _)|exact ai.aA|refine ai.bif ?_|refine ai.need ?_|refine ai.look fun _=>?_|refine ai.node ?_ ?_|refine ai.bind fun _ _=>?_|split))
theorem tJ{ty:TypeId}{t x:ay}:ai σ (pQ cx d ty t x σ):=by
 unfold pQ;split
 ·split
  ·exact ai.fail
  ·exact ai.bind fun r hr=>ai.ret ((xP hr).trans (aN.aD _ _ _))
 ·exact ai.fail
theorem Aa{ty:TypeId}{t:ay}:ai σ (pR cx ty t σ):=by
 unfold pR;split
 ·exact ai.bind fun r hr=>ai.ret (xP hr)
 ·exact ai.fail
theorem yA{name:String}{args:List ay}:ai σ (kY cx d name args σ):=by
 intro σ' hr;unfold kY at hr;split at hr
 ·split at hr
  ·rename_i hx;obtain⟨y,hy,hr2⟩:=bE hr;obtain rfl:=ax hr2;exact(ko hx).trans (aN.aD _ _ _)
  ·exact absurd hr (by intro k;cases k)
 ·exact absurd hr (by intro k;cases k)
theorem Ab{ty u:TypeId}{x:ay}:ai σ (kX cx d ty u x σ):=by
 intro σ' hr;unfold kX at hr;split at hr
 ·split at hr
  ·split at hr
   ·rename_i hx;obtain rfl:=ax hr;exact(jR hx).trans (aN.aD _ _ _)
   ·exact absurd hr (by intro k;cases k)
  ·exact absurd hr (by intro k;cases k)
 ·exact absurd hr (by intro k;cases k)
theorem Bq(iq:∀f vals σ v σ',(inl f vals σ).run=some (v,σ')→aN σ σ'){ty:TypeId}{c:Call}:ai σ (nM cx nb bf inl d ty c σ):=by
 unfold nM;split
 ·split
  ·(repeat' (first|exact ai.fail|exact ai.ret (aN.aD _ _ _)|exact ai.ret (aN.put _ _ _)|exact ai.aA|refine ai.bif ?_|refine ai.need ?_|refine ai.look fun _=>?_|refine ai.node ?_ ?_|refine ai.bind fun _ _=>?_|split))
  ·split
   ·exact fun y hy=>rj hy
   ·exact fun y hy=>rj hy
   ·exact ai.fail
  ·split
   ·exact tJ
   ·exact tJ
   ·exact ai.fail
  ·split
   ·exact Aa
   ·exact ai.fail
  ·(repeat' (first|exact ai.fail|exact ai.ret (aN.aD _ _ _)|exact ai.ret (aN.put _ _ _)|exact ai.aA|refine ai.bif ?_|refine ai.need ?_|refine ai.look fun _=>?_|refine ai.node ?_ ?_|refine ai.bind fun _ _=>?_|split))
  ·(repeat' (first|exact ai.fail|exact ai.ret (aN.aD _ _ _)|exact ai.ret (aN.put _ _ _)|exact ai.aA|refine ai.bif ?_|refine ai.need ?_|refine ai.look fun _=>?_|refine ai.node ?_ ?_|refine ai.bind fun _ _=>?_|split))
  ·exact ai.fail
 ·split
  ·exact ai.bif fun y hy=>Dh iq hy
  ·exact ai.fail
 ·exact yA
theorem rZ(iq:∀f vals σ v σ',(inl f vals σ).run=some (v,σ')→aN σ σ'){o:Oper}:ai σ (jY cx nb bf inl o σ):=by
 unfold jY;split
 case h_1=>exact rm
 case h_2=>exact rm
 case h_3=>exact Bo
 case h_4 =>
  split
  ·unfold nB;split
   ·refine ai.bif fun y hy=>?_;obtain⟨aj,k1,k2⟩:=gK hy;exact k1.trans (ai.aA y k2)
   ·exact ai.aA
  ·split
   ·refine ai.bind fun r hr=>?_;exact fun y hy=>(Gx hr).trans (ai.aA y hy)
   ·exact ai.bif ai.aA
  ·exact ai.fail
 case h_5 =>
  unfold uT;split
  ·exact ai.fail
  ·exact ai.fail
  ·split
   ·refine ai.bind fun r hr=>?_;exact fun y hy=>(Df hr).trans (ai.aA y hy)
   ·exact ai.aA
  ·exact ai.fail
 case h_6 =>
  split
  ·split
   ·rename_i hb;exact ai.ret ((yz hb).trans (aN.aD _ _ _))
   ·exact ai.fail
  ·split
   ·rename_i hb;exact ai.ret ((rY hb).trans (aN.aD _ _ _))
   ·exact ai.fail
  ·(repeat' (first|exact ai.fail|exact ai.ret (aN.aD _ _ _)|exact ai.ret (aN.put _ _ _)|exact ai.aA|refine ai.bif ?_|refine ai.need ?_|refine ai.look fun _=>?_|refine ai.node ?_ ?_|refine ai.bind fun _ _=>?_|split))
  ·exact ai.fail
 case h_7 =>
  split
  ·split
   ·exact ai.aA
   ·refine ai.bif ?_;split
    ·rename_i hb;exact ai.ret ((rY hb).trans (aN.aD _ _ _))
    ·exact ai.fail
  ·unfold sM;(repeat' (first|exact ai.fail|exact ai.ret (aN.aD _ _ _)|exact ai.ret (aN.put _ _ _)|exact ai.aA|refine ai.bif ?_|refine ai.need ?_|refine ai.look fun _=>?_|refine ai.node ?_ ?_|refine ai.bind fun _ _=>?_|split))
  ·exact ai.fail
 case h_8=>exact Bp
 case h_9=>split
           ·exact fun y hy=>zX hy
           ·exact ai.fail
 case h_10=>(repeat' (first|exact ai.fail|exact ai.ret (aN.aD _ _ _)|exact ai.ret (aN.put _ _ _)|exact ai.aA|refine ai.bif ?_|refine ai.need ?_|refine ai.look fun _=>?_|refine ai.node ?_ ?_|refine ai.bind fun _ _=>?_|split))
 case h_11=>(repeat' (first|exact ai.fail|exact ai.ret (aN.aD _ _ _)|exact ai.ret (aN.put _ _ _)|exact ai.aA|refine ai.bif ?_|refine ai.need ?_|refine ai.look fun _=>?_|refine ai.node ?_ ?_|refine ai.bind fun _ _=>?_|split))
 case h_12=>(repeat' (first|exact ai.fail|exact ai.ret (aN.aD _ _ _)|exact ai.ret (aN.put _ _ _)|exact ai.aA|refine ai.bif ?_|refine ai.need ?_|refine ai.look fun _=>?_|refine ai.node ?_ ?_|refine ai.bind fun _ _=>?_|split))
 case h_13=>exact wZ
 case h_14=>(repeat' (first|exact ai.fail|exact ai.ret (aN.aD _ _ _)|exact ai.ret (aN.put _ _ _)|exact ai.aA|refine ai.bif ?_|refine ai.need ?_|refine ai.look fun _=>?_|refine ai.node ?_ ?_|refine ai.bind fun _ _=>?_|split))
 case h_15=>exact z6
 case h_16=>exact uA
 case h_17=>(repeat' (first|exact ai.fail|exact ai.ret (aN.aD _ _ _)|exact ai.ret (aN.put _ _ _)|exact ai.aA|refine ai.bif ?_|refine ai.need ?_|refine ai.look fun _=>?_|refine ai.node ?_ ?_|refine ai.bind fun _ _=>?_|split))
 case h_18=>split
            ·cases b6 bf 5000000 with
             | true=>exact z7
             | false=>exact nX
            ·exact ai.fail
 case h_19=>split
            ·exact z8
            ·exact ai.fail
 case h_20=>(repeat' (first|exact ai.fail|exact ai.ret (aN.aD _ _ _)|exact ai.ret (aN.put _ _ _)|exact ai.aA|refine ai.bif ?_|refine ai.need ?_|refine ai.look fun _=>?_|refine ai.node ?_ ?_|refine ai.bind fun _ _=>?_|split))
 case h_21=>(repeat' (first|exact ai.fail|exact ai.ret (aN.aD _ _ _)|exact ai.ret (aN.put _ _ _)|exact ai.aA|refine ai.bif ?_|refine ai.need ?_|refine ai.look fun _=>?_|refine ai.node ?_ ?_|refine ai.bind fun _ _=>?_|split))
 case h_22=>exact Bq iq
 case h_23=>exact Ab
 case h_24=>exact ai.fail
end
end Go.Ge
namespace Go.Ge
open RowKit
theorem iH.shrink{mem mem':Nat→Option aY}(hm:∀b bx,mem b=some bx→mem' b=some { bx with lk:=true }){b aj:Nat}{K0 K:aY→Prop}(h0:iH mem b aj K0)(h:iH mem' b aj K)
  (hK:∀bx,K { bx with lk:=true }→K bx):iH mem b aj K:=by
 obtain⟨bx,h1,h2,_⟩:=h0;obtain⟨fM,k1,k2,k3⟩:=h;rw[hm b bx h1] at k1;obtain rfl:=ax k1;exact⟨bx,h1,h2,fun e=>hK bx (k3 e)⟩
theorem bH.shrink{γ γ':Gh}{mem mem':Nat→Option aY}{w w':World}(hm:∀b bx,mem b=some bx→mem' b=some { bx with lk:=true }):∀{v:ay} {m:Mode} {us vs:List Value},
  bH γ mem w v m us→bH γ' mem' w' v m vs→bH γ' mem w' v m vs:=by
 intro v;induction v with
 | undef=>intro m us vs _ r;cases m<;>exact r
 | data t x=>intro m us vs _ r;cases m<;>exact r
 | js=>intro m us vs _ r;cases m<;>exact r
 | kW=>intro m us vs _ r;cases m<;>exact r
 | cell t x=>intro m us vs _ r;cases m<;>exact r
 | nl=>intro m us vs _ r;cases m<;>exact r
 | lV=>intro m us vs _ r;cases m<;>exact r
 | oB b aj =>
   intro m us vs r0 r;cases m with
   | many=>exact r
   | cells=>exact⟨r.1,r0.2.shrink hm r.2 fun _ k=>k⟩
   | val=>exact⟨r.1,r0.2.shrink hm r.2 fun _ k=>k⟩
 | ptr b aj p =>
   intro m us vs r0 r;cases m with
   | many=>exact r
   | cells=>exact⟨r.1,r0.2.shrink hm r.2 fun _ k=>k⟩
   | val=>exact⟨r.1,r0.2.shrink hm r.2 fun _ k=>k⟩
 | whole b aj =>
   intro m us vs r0 r;cases m with
   | many=>exact r
   | cells=>exact⟨r.1,r0.2.shrink hm r.2 fun _ k=>k⟩
   | val=>exact⟨r.1,r0.2.shrink hm r.2 fun _ k=>k⟩
 | part b aj lo n =>
   intro m us vs r0 r;cases m with
   | many=>exact r
   | cells=>exact⟨r.1,r0.2.shrink hm r.2 fun _ k=>k⟩
   | val=>exact⟨r.1,r0.2.shrink hm r.2 fun _ k=>k⟩
 | win b aj q e k lo n =>
   intro m us vs r0 r;cases m with
   | many=>exact r
   | cells=>exact⟨r.1,r0.2.shrink hm r.2 fun _ k=>k⟩
   | val=>exact⟨r.1,r0.2.shrink hm r.2 fun _ k=>k⟩
 | fn f caps =>
   intro m us vs r0 r;cases m with
   | many=>exact r
   | cells=>obtain⟨_,_,_,s⟩:=r0;obtain⟨arr,r1,r2,r3⟩:=r;exact⟨arr,r1,r2,fun i b aj hc=>(s i b aj hc).shrink hm (r3 i b aj hc) fun _ k=>k⟩
   | val=>obtain⟨_,_,_,s⟩:=r0;obtain⟨arr,r1,r2,r3⟩:=r;exact⟨arr,r1,r2,fun i b aj hc=>(s i b aj hc).shrink hm (r3 i b aj hc) fun _ k=>k⟩
 | mix a b gy iu =>
   intro m us vs r0 r;cases m with
   | cells=>obtain⟨_,_,_,s1,s2⟩:=r0;obtain⟨c1,c2,r0,r1,r2⟩:=r;exact⟨c1,c2,r0,gy s1 r1,iu s2 r2⟩
   | val=>obtain⟨_,_,_,s1,s2⟩:=r0;obtain⟨c1,c2,r0,r1,r2⟩:=r;exact⟨c1,c2,r0,gy s1 r1,iu s2 r2⟩
   | many=>obtain⟨_,_,_,s1,s2⟩:=r0;obtain⟨c1,c2,r0,r1,r2⟩:=r;exact⟨c1,c2,r0,gy s1 r1,iu s2 r2⟩
 | om u ih =>
   intro m us vs r0 r;cases m with
   | val=>obtain⟨_,_,s⟩:=r0;obtain⟨arr,r1,r2⟩:=r;exact⟨arr,r1,ih s r2⟩
   | cells=>exact r
   | many=>exact r
theorem aV.unlock{B:ld}{γ γ':Gh}{mem mem':Nat→Option aY}{w w':World}(h:aV B γ mem w)(hm:∀b bx,mem b=some bx→mem' b=some { bx with lk:=true })
  (h':aV B γ' mem' w') (hx:Ext B γ (fun i=>match mem i with|some b=>some { b with lk:=true }|none=>none) w γ' mem' w'):aV B γ' mem w'∧Ext B γ mem w γ' mem w':=by
 have tq:∀b bx,mem b=some bx→γ'.loc b=γ.loc b:=by
  intro b bx hb;obtain⟨fM,k1,k2,k3⟩:=hx.boxes b { bx with lk:=true } (by simp[hb]);rw[hm b bx hb] at k1;obtain rfl:=ax k1;exact(k3 rfl).1
 have hne:∀b,mem b≠none→mem' b≠none:=by
  intro b hb;cases hq:mem b with
  | none=>exact absurd hq hb
  | some bx=>rw[hm b bx hq];simp
 refine⟨?_,⟨hx.below,hx.I,hx.mX,hx.cells,fun b bx hb=>⟨bx,hb,kS _,fun _=>⟨tq b bx hb,rfl,rfl⟩⟩⟩⟩;exact
  { bG:=h'.bG
    base:=h'.base
    boxes:=fun b bx hb=>by
     have h1:=h.boxes b bx hb;have h2:=h'.boxes b _ (hm b bx hb);unfold bQ at h1 h2⊢;cases aW:bx.buf with
     | true=>rw[aW] at h2;exact h2
     | false =>
       rw[aW] at h1 h2;obtain⟨_,_,_,_,_,_,_,_,_,r0⟩:=h1;obtain⟨blk,cap,cur,tid,fr,k1,k2,k3,ez,k4⟩:=h2;exact⟨blk,cap,cur,tid,fr,k1,k2,k3,ez,r0.shrink hm k4⟩
    inj:=fun b c blk k k' hb hc h1 h2=>h'.inj b c blk k k' (hne b hb) (hne c hc) h1 h2
    fresh:=fun b blk k hb h1=>h'.fresh b blk k (hne b hb) h1
    mW:=h'.mW
    sep:=fun b bx blk k off hb h1 hi=>by
     have:=h'.sep b _ blk k off (hm b bx hb) h1 hi;exact this }
theorem Ext.fA{B:ld}{γ:Gh}{σ:St}{w:World}:Ext B γ σ.mem w γ σ.fA.mem w where
 below:=nD.refl _ _
 I:=fun _ _ h=>h
 mX:=fun _ _ h=>.inl h
 cells:=fun _ _ _=>rfl
 boxes:=fun b bx hb=>⟨{ bx with lk:=true },by simp[St.fA,hb],kS _,fun _=>⟨rfl,rfl,rfl⟩⟩
theorem aV.fA{B:ld}{γ:Gh}{σ:St}{w:World}(h:aV B γ σ.mem w):aV B γ σ.fA.mem w:=by
 have inv:∀{b bx},σ.fA.mem b=some bx→∃cc,σ.mem b=some cc∧bx={ cc with lk:=true }:=by
  intro b bx hb;simp only[St.fA] at hb;split at hb
  ·rename_i cc h0;exact⟨cc,h0,(ax hb).symm⟩
  ·cases hb
 have hne:∀{b},σ.fA.mem b≠none→σ.mem b≠none:=by
  intro b hb hq;apply hb;simp[St.fA,hq]
 exact
  { bG:=h.bG
    base:=h.base
    boxes:=fun b bx hb=>by
     obtain⟨cc,h0,rfl⟩:=inv hb;have:=(h.boxes b cc h0).keep (Ext.fA (B:=B) (γ:=γ) (σ:=σ) (w:=w)) rfl (fun _ _ _=>rfl);exact this
    inj:=fun b c blk k k' hb hc h1 h2=>h.inj b c blk k k' (hne hb) (hne hc) h1 h2
    fresh:=fun b blk k hb h1=>h.fresh b blk k (hne hb) h1
    mW:=h.mW
    sep:=fun b bx blk k off hb h1 hi=>by
     obtain⟨cc,h0,rfl⟩:=inv hb;exact h.sep b cc blk k off h0 h1 hi }
theorem bZ.fA{B:ld}{N:Nat}{γ:Gh}{σ:St}{a:Act}{w:World}(h:bZ B N γ σ a w):bZ B N γ σ.fA a w where
 slots:=fun t=>(h.slots t).ext (Ext.fA (B:=B))
 size:=h.size
 defers:=h.defers
 ok:=h.ok.fA
theorem Di{σ τ:St}(h:aN σ.fA τ):∀b bx,σ.mem b=some bx→τ.mem b=some { bx with lk:=true }:=fun b bx hb=>h b _ (by simp[St.fA,hb]) rfl
end Go.Ge
namespace Go.Ge
open RowKit
inductive kT (all:Array Oper) (G:List (Nat×Bool)):List (Nat×Oper)→List Oper→Prop
 | nil:kT all G [] []
 | cons {i:Nat} {o o':Oper} {r:List (Nat×Oper)} {l:List Oper}:all[i]?=some o→(o'=o∨∃g,o.guard=some g∧g∈G∧o'={ o with guard:=none })→kT all G r l→kT all G ((i,o')::r) (o::l)
theorem kT.mono{all:Array Oper}{G G':List (Nat×Bool)}(hG:∀g∈G,g∈G'){items:List (Nat×Oper)}{l:List Oper}(h:kT all G items l):kT all G' items l:=by
 induction h with
 | nil=>exact .nil
 | cons h1 h2 _ ih=>exact .cons h1 (h2.imp id fun⟨g,k1,k2,k3⟩=>⟨g,k1,hG g k2,k3⟩) ih
theorem EO{all:Array Oper}{G:List (Nat×Bool)}{j:Nat}{want:Bool}:∀{items:List (Nat×Oper)} {l:List Oper} {inner:List Nat},kT all G items l →
  ∃l1 l2,l=l1++l2∧kT all ((j,want)::G) (under j want inner items).1 l1∧kT all G (under j want inner items).2 l2:=by
 intro items l inner h;induction h generalizing inner with
 | nil=>exact⟨[],[],rfl,.nil,.nil⟩
 | @cons i o o' r l h1 h2 h3 ih =>
   unfold under;cases hg:qv o'.guard j want with
   | true =>
     simp only[jk];obtain⟨l1,l2,e1,e2,e3⟩:=ih (inner:=i::inner);refine⟨o::l1,l2,by rw[e1];rfl,.cons h1 (.inr ?_) e2,e3⟩;have ho:o'=o:=by
      rcases h2 with h2|⟨g,k1,k2,k3⟩
      ·exact h2
      ·rw[k3] at hg;cases hg
     subst ho;unfold qv at hg;split at hg
     ·rename_i i' b' hgd;simp only[cP] at hg;have h9:=dz hg.1;have h8:b'=want:=by simpa using hg.2
      subst h9;subst h8;exact⟨(i',b'),hgd,nG ..,rfl⟩
     ·cases hg
   | false =>
     simp only[gj];have both:∀c:Bool,∃l1 l2,o::l=l1++l2 ∧
       kT all ((j,want)::G) (bif c then((i,o')::(under j want (i::inner) r).1,(under j want (i::inner) r).2) else([],(i,o')::r)).1 l1 ∧
       kT all G (bif c then((i,o')::(under j want (i::inner) r).1,(under j want (i::inner) r).2) else([],(i,o')::r)).2 l2:=by
      intro c;cases c with
      | true =>
        obtain⟨l1,l2,e1,e2,e3⟩:=ih (inner:=i::inner);exact⟨o::l1,l2,by rw[e1];rfl,.cons h1 (h2.imp id fun⟨g,k1,k2,k3⟩=>⟨g,k1,nF _ k2,k3⟩) e2,e3⟩
      | false=>exact⟨[],o::l,rfl,.nil,.cons h1 h2 h3⟩
     exact both _
theorem Gz{d:Nat}:∀{items:List (Nat×Oper)},jc d items=false→∀i o,(i,o)∈items→o.dst≠some d:=by
 intro items;induction items with
 | nil=>intro _ i o h;cases h
 | cons p r ih =>
   obtain⟨i0,o0⟩:=p;intro h i o hm;simp only[jc,A7] at h;rcases List.mem_cons.1 hm with hm|hm
   ·obtain⟨rfl,rfl⟩:=cr hm;intro e;rw[e] at h;simp at h
   ·exact ih h.2 i o hm
section
variable {P:Program} {B:ld} {N:Nat} {γ:Gh} {σ σ':St} {a:Act} {w w':World} {cx:Ctx} {nb:Nat} {bf:List Nat} {inl:Nat→List ay→St→Tree (ay×St)} {all:Array Oper}
def EP(all:Array Oper)(G:List (Nat×Bool))(a:Act)(items:List (Nat×Oper)):Prop :=
 ∀g∈G,∃dj,(all[g.1]?).bind (·.dst)=some dj∧a.tmps[dj]?=some (.bool g.2)∧jc dj items=false
theorem EP.wanted{G:List (Nat×Bool)}{items:List (Nat×Oper)}(h:EP all G a items){o:Oper}{g:Nat×Bool}(ho:o.guard=some g)(hg:g∈G):Region.wanted o (yielded all a.tmps)=true:=by
 obtain⟨dj,h1,h2,_⟩:=h g hg;obtain⟨j,want⟩:=g;unfold Region.wanted;rw[ho];simp only[yielded,h1,CF,h2];simp
def Fr(items:List (Nat×Oper))(a a':Act):Prop:=∀t,jc t items=false→a'.tmps[t]?=a.tmps[t]?
theorem er{a:Act}{d:Option Nat}{v:Value}{t:Nat}(h:d≠some t):(a.put d v).tmps[t]?=a.tmps[t]?:=by
 cases d with
 | none=>rfl
 | some k =>
   have:k≠t:=fun e=>h (by rw[e]);simp[Act.put,Array.getElem?_setIfInBounds_ne this]
theorem p5{d i:Nat}{o:Oper}{r:List (Nat×Oper)}(h:jc d ((i,o)::r)=false):o.dst≠some d∧jc d r=false:=by
 simp only[jc,A7] at h;refine⟨fun e=>?_,h.2⟩;rw[e] at h;simp at h
theorem ER(t:Nat):∀(items:List (Nat×Oper)),(σ.undef items).slots t=bif jc t items then .undef else σ.slots t:=by
 intro items;induction items with
 | nil=>rfl
 | cons p r ih =>
   obtain⟨i,o⟩:=p;simp only[St.undef,jc];cases hd:o.dst with
   | none=>simp only[St.aD,IP];exact ih
   | some k =>
     simp only[St.aD,St.put];cases hk:Nat.beq k t with
     | true=>obtain rfl:=dz hk;simp
     | false =>
       have:Nat.beq t k=false:=fJ (fun e=>by subst e;simp at hk);rw[this];simp only[gj,IP];exact ih
theorem nE:∀(items:List (Nat×Oper)),(σ.undef items).mem=σ.mem:=by
 intro items;induction items with
 | nil=>rfl
 | cons p r ih =>
   obtain⟨i,o⟩:=p;simp only[St.undef];cases o.dst<;>exact ih
theorem bZ.undef(h:bZ B N γ σ a w){items:List (Nat×Oper)}{a':Act}(hf:Fr items a a')(hs:a'.tmps.size=N)(hd:a'.defers=[]):bZ B N γ (σ.undef items) a' w where
 slots:=fun t=>by
  rw[ER,nE];cases hh:jc t items with
  | true=>exact⟨_,rfl⟩
  | false =>
    have:=hf t hh;have e:a'.tmps.getD t Go.undef=a.tmps.getD t Go.undef:=by simp only[FT,this]
    rw[e];exact h.slots t
 size:=hs
 defers:=hd
 ok:=by rw[nE];exact h.ok
theorem vB{d:Option Nat}{k:Nat}(h:yielded all a.tmps k=none):yielded all (a.put d Go.undef).tmps k=none:=by
 unfold yielded at h⊢;cases hk:(all[k]?).bind (·.dst) with
 | none=>rfl
 | some dk =>
   rw[hk] at h;simp only[CF] at h⊢;by_cases e:d=some dk
   ·subst e;simp only[Act.put];rw[O6];simp only[jr];by_cases hs:dk<a.tmps.size
    ·rw[ek hs];rfl
    ·rw[cT hs]
   ·rw[er e];exact h
theorem vC{i:Nat}{o:Oper}(h:all[i]?=some o):yielded all (a.put o.dst Go.undef).tmps i=none:=by
 unfold yielded;rw[h];simp only[CF];cases hd:o.dst with
 | none=>rfl
 | some d =>
   simp only[CF,Act.put];rw[O6];simp only[jr];by_cases hs:d<a.tmps.size
   ·rw[ek hs];rfl
   ·rw[cT hs]
theorem GA{G:List (Nat×Bool)}{j dj:Nat}{want c:Bool}{Q:Exit→Act→World→Prop}(hj:(all[j]?).bind (·.dst)=some dj)(ES:c≠want) :
  ∀{items:List (Nat×Oper)} {l:List Oper} {inner:List Nat} {a:Act},kT all G items l→a.tmps[dj]?=some (.bool c)→jc dj (under j want inner items).1=false→(∀k∈inner,yielded all a.tmps k=none) →
   ∃l1 l2,l=l1++l2∧l1.length=(under j want inner items).1.length∧∀rest,(∀a',Fr (under j want inner items).1 a a'→a'.tmps.size=a.tmps.size→a'.defers=a.defers→wpList P all Q rest a' w) →
    wpList P all Q (l1++rest) a w:=by
 intro items l inner a h;induction h generalizing inner a with
 | nil=>intro _ _ _;exact⟨[],[],rfl,rfl,fun rest hk=>hk a (fun t _=>rfl) rfl rfl⟩
 | @cons i o o' r l h1 h2 h3 ih =>
   intro hc hh hin;have one:∀(oo:Oper),oo.dst=o.dst→Region.wanted o (yielded all a.tmps)=false→(under j want inner ((i,o')::r)).1=(i,oo)::(under j want (i::inner) r).1 →
     ∃l1 l2,o::l=l1++l2∧l1.length=(under j want inner ((i,o')::r)).1.length∧∀rest,(∀a',Fr (under j want inner ((i,o')::r)).1 a a'→a'.tmps.size=a.tmps.size→a'.defers=a.defers→wpList P all Q rest a' w) →
     wpList P all Q (l1++rest) a w:=by
    intro oo TD hw hu;rw[hu] at hh⊢;obtain⟨hd1,Uy⟩:=p5 hh;rw[TD] at hd1;obtain⟨l1,l2,e1,e2,e3⟩:=ih (inner:=i::inner) (a:=a.put o.dst Go.undef) (by rw[er hd1];exact hc) Uy (fun k hk=>by
     rcases List.mem_cons.1 hk with rfl|hk
     ·exact vC h1
     ·exact vB (hin k hk))
    refine⟨o::l1,l2,by rw[e1];rfl,by simp[e2],fun rest hk=>?_⟩;show wpList P all Q (o::(l1++rest)) a w
    unfold wpList;rw[hw];simp only[FY,wD];refine e3 rest fun a' f1 f2 f3=>hk a' (fun t ht=>?_) (f2.trans (Ep _ _ _)) (f3.trans (put_defers _ _ _));obtain⟨ht1,Uz⟩:=p5 ht;rw[TD] at ht1;rw[f1 t Uz,er ht1]
   cases hg:qv o'.guard j want with
   | true =>
     have ho:o'=o:=by
      rcases h2 with h2|⟨g,k1,k2,k3⟩
      ·exact h2
      ·rw[k3] at hg;cases hg
     subst ho;have hgd:o'.guard=some (j,want):=by
      unfold qv at hg;split at hg
      ·rename_i i' b' hgd;simp only[cP] at hg;have h9:=dz hg.1;have h8:b'=want:=by simpa using hg.2
       rw[hgd,h9,h8]
      ·cases hg
     refine one { o' with guard:=none } rfl ?_ (by simp only[under,hg,jk]);unfold Region.wanted;rw[hgd];simp only[yielded,hj,CF,hc];cases c<;>cases want<;>first|rfl|exact absurd rfl ES
   | false =>
     cases hgd:o'.guard with
     | none =>
       have hu:(under j want inner ((i,o')::r)).1=[]:=by
        rw[hgd] at hg;simp only[under,hgd,hg,gj]
       rw[hu];exact⟨[],o::l,rfl,rfl,fun rest hk=>hk a (fun t _=>rfl) rfl rfl⟩
     | some g =>
       obtain⟨k,b⟩:=g;rw[hgd] at hg;cases hn:inner.any (Nat.beq k) with
       | true =>
         have ho:o'=o:=by
          rcases h2 with h2|⟨g,k1,k2,k3⟩
          ·exact h2
          ·rw[k3] at hgd;cases hgd
         subst ho;refine one o' rfl ?_ (by simp only[under,hgd,hg,hn,gj,jk]);obtain⟨k',hk',hkk⟩:=List.any_eq_true.1 hn;obtain rfl:=dz hkk;unfold Region.wanted;rw[hgd];simp only[hin k hk'];rfl
       | false =>
         have hu:(under j want inner ((i,o')::r)).1=[]:=by simp only[under,hgd,hg,hn,gj]
         rw[hu];exact⟨[],o::l,rfl,rfl,fun rest hk=>hk a (fun t _=>rfl) rfl rfl⟩
end
end Go.Ge
namespace Go.Ge
open RowKit
section
variable {P:Program} {B:ld} {N:Nat} {γ:Gh} {σ σ':St} {a:Act} {w w':World} {cx:Ctx} {nb:Nat} {bf:List Nat} {inl:Nat→List ay→St→Tree (ay×St)} {all:Array Oper}
theorem Ac(σ:St)(items:List (Nat×Oper)):aN σ (σ.undef items):=aN.Lt (nE items)
theorem vD(iq:∀f vals σ v σ',(inl f vals σ).run=some (v,σ')→aN σ σ'):∀(n:Nat) (items:List (Nat×Oper)) (σ:St),ai σ (jZ cx nb bf inl all n items σ):=by
 intro n;induction n with
 | zero=>intro items σ;exact ai.fail
 | succ n ih =>
   intro items σ;cases items with
   | nil=>exact ai.ret (aN.refl _)
   | cons p r =>
     obtain⟨i,o⟩:=p;unfold jZ;split
     ·exact ai.bind fun σ1 h1 y hy=>(rZ iq σ1 h1).trans (ih _ _ y hy)
     ·rename_i j want hg;dsimp only;split
      ·exact ai.fail
      ·rename_i dj Sn;split
       ·rename_i c ip pk rest vE mQ;cases hh:jc dj (under j want [] ((i,o)::r)).1 with
        | true=>exact ai.fail
        | false =>
          simp only[gj];split
          ·exact ai.fail
          ·cases hin:yO cx (under j want [] ((i,o)::r)).1 with
           | true =>
             simp only[jk];intro y hy;obtain⟨σ2,h1,h2⟩:=bind_some hy;refine aN.trans ?_ (ih _ _ y h2);refine(ai.node (σ:=σ) ?_ ?_) σ2 h1
             ·refine ai.bind fun τ UA=>?_;split
              ·exact ai.ret ((ih _ _ τ UA).trans (aN.aD _ _ _))
              ·exact ai.fail
             ·split
              ·exact ai.ret ((Ac _ _).trans (aN.aD _ _ _))
              ·exact ai.fail
           | false =>
             simp only[gj];split
             ·intro y hy;rw[Tree.rH] at hy;obtain⟨x,h1,h2⟩:=Option.bind_eq_some_iff.1 hy;exact((Ac _ _).trans (aN.put _ _ _)).trans (ih _ _ y h2)
             ·exact ai.fail
       ·exact ai.fail
theorem H8{mem:Nat→Option aY}{t:Ty}{v:ay}{x:t.den}{val:Value}(h:IQ t v=some x)(hv:bH γ mem w v .val [val]){mem':Nat→Option aY}:bH γ mem' w (.data t x) .val [val]:=by
 unfold IQ at h;split at h
 ·obtain⟨q,hq⟩:=Ty.gL h;subst q;subst hq;exact hv
 ·split at h
  ·obtain rfl:=ax h;obtain rfl:val=_:=by simpa [bH] using hv
   exact⟨[.slice none 0 0],.inl ⟨⟨none,rfl⟩,rfl⟩,rfl⟩
  ·cases h
 ·cases h
theorem kT.length{G:List (Nat×Bool)}{items:List (Nat×Oper)}{l:List Oper}(h:kT all G items l):items.length=l.length:=by
 induction h with
 | nil=>rfl
 | cons _ _ _ ih=>simp[ih]
theorem GB{pk:Oper}{dj:Nat}{b:Bool}{v:ay}{K:Act→World→Prop}{Q:Exit→Act→World→Prop}(h:bZ B N γ σ a w)(hb:a.tmps[dj]?=some (.bool b)){want:Bool}(hw:b=want)
  (Cj:qw σ pk dj want=some v) (hK:∀y,bH γ σ.mem w v .val [y]→K (a.put pk.dst y) w):pk.wp P a w K Q:=by
 unfold qw at Cj;split at Cj
 ·rename_i c x y hop;cases hc:Nat.beq c dj with
  | false=>rw[hc] at Cj;cases Cj
  | true =>
    obtain rfl:=dz hc;rw[hc] at Cj;obtain rfl:=ax Cj;subst hw;have he:a.eval (.tmp c)=.bool b:=by simp[Act.eval,hb]
    unfold Oper.wp;have hrun:(execOp a.eval pk).run P w=.ok (.value (a.eval (bif b then x else y))) w:=by
     simp only[execOp,hop,he];cases b<;>rfl
    rw[hrun];exact hK _ (h.bN _)
 ·cases Cj
theorem EP.put{G:List (Nat×Bool)}{i:Nat}{o:Oper}{r:List (Nat×Oper)}(h:EP all G a ((i,o)::r))(v:Value):EP all G (a.put o.dst v) r:=by
 intro g hg;obtain⟨dj,k1,k2,k3⟩:=h g hg;obtain⟨t1,t2⟩:=p5 k3;exact⟨dj,k1,by rw[er t1];exact k2,t2⟩
theorem GC{d j:Nat}{want:Bool}:∀{items:List (Nat×Oper)} {inner:List Nat},jc d items=(jc d (under j want inner items).1||jc d (under j want inner items).2):=by
 intro items;induction items with
 | nil=>intro inner;rfl
 | cons p r ih =>
   obtain⟨i,o⟩:=p;intro inner;unfold under;cases hg:qv o.guard j want with
   | true=>simp only[jk,jc,KO];rw[ih (inner:=i::inner)]
   | false =>
     simp only[gj];have both:∀c:Bool,jc d ((i,o)::r)=(jc d (bif c then((i,o)::(under j want (i::inner) r).1,(under j want (i::inner) r).2) else([],(i,o)::r)).1 ||
       jc d (bif c then((i,o)::(under j want (i::inner) r).1,(under j want (i::inner) r).2) else([],(i,o)::r)).2):=by
      intro c;cases c with
      | true=>simp only[jk,jc,KO];rw[ih (inner:=i::inner)]
      | false=>simp[jc]
     exact both _
theorem GD{p:Option Nat→Prop}{j:Nat}{want:Bool}:∀{items:List (Nat×Oper)} {inner:List Nat},(∀i o,(i,o)∈items→p o.dst) →
  (∀i o,(i,o)∈(under j want inner items).1→p o.dst)∧(∀i o,(i,o)∈(under j want inner items).2→p o.dst):=by
 intro items;induction items with
 | nil=>intro inner h;exact⟨h,h⟩
 | cons q r ih =>
   obtain⟨i0,o0⟩:=q;intro inner h;have h0:=h i0 o0 (nG ..);have hr:∀i o,(i,o)∈r→p o.dst:=fun i o hm=>h i o (nF _ hm);unfold under;cases hg:qv o0.guard j want with
   | true =>
     simp only[jk];obtain⟨k1,k2⟩:=ih (inner:=i0::inner) hr;refine⟨fun i o hm=>?_,k2⟩;rcases List.mem_cons.1 hm with hm|hm
     ·obtain⟨_,rfl⟩:=cr hm;exact h0
     ·exact k1 i o hm
   | false =>
     simp only[gj];have both:∀c:Bool,(∀i o,(i,o)∈(bif c then((i0,o0)::(under j want (i0::inner) r).1,(under j want (i0::inner) r).2) else([],(i0,o0)::r)).1→p o.dst) ∧
       (∀i o,(i,o)∈(bif c then((i0,o0)::(under j want (i0::inner) r).1,(under j want (i0::inner) r).2) else([],(i0,o0)::r)).2→p o.dst):=by
      intro c;cases c with
      | true =>
        obtain⟨k1,k2⟩:=ih (inner:=i0::inner) hr;refine⟨fun i o hm=>?_,k2⟩;rcases List.mem_cons.1 hm with hm|hm
        ·obtain⟨_,rfl⟩:=cr hm;exact h0
        ·exact k1 i o hm
      | false=>exact⟨fun i o hm=>(by cases hm),h⟩
     exact both _
theorem xQ{t:Nat}{b:Bool}(h:bZ B N γ σ a w)(hs:σ.slots t=.data .bool b):a.tmps[t]?=some (.bool b):=by
 have:=h.slots t;rw[hs] at this;have e:=qz this;rw[FT] at e;cases hq:a.tmps[t]? with
 | none=>rw[hq] at e;cases e
 | some y=>rw[hq] at e;exact congrArg some e
theorem ET{α:Type}{c want:Bool}{t e:Tree α}{y:α}(h:(Tree.node (bif want then c else nt c) t e).run=some y):(c=want∧t.run=some y)∨(c≠want∧c=(!want)∧e.run=some y):=by
 have:=eI h;cases c<;>cases want
 ·exact .inl ⟨rfl,this⟩
 ·exact .inr ⟨by simp,rfl,this⟩
 ·exact .inr ⟨by simp,rfl,this⟩
 ·exact .inl ⟨rfl,this⟩
theorem Br(hc:eo P cx)(dc:jP P B.G cx)(iq:oE P B.G inl)(hkeep:∀f vals σ v σ',(inl f vals σ).run=some (v,σ')→aN σ σ'){Q:Exit→Act→World→Prop} :
  ∀(n:Nat) {items:List (Nat×Oper)} {l rest:List Oper} {σ σ':St} {γ:Gh} {a:Act} {w:World} {G:List (Nat×Bool)},kT all G items l→EP all G a items→(∀i o,(i,o)∈items→∀k,o.dst=some k→k<N) →
   (jZ cx nb bf inl all n items σ).run=some σ'→bZ B N γ σ a w →
   (∀γ' a' w',bZ B N γ' σ' a' w'→Ext B γ σ.mem w γ' σ'.mem w'→Fr items a a'→wpList P all Q rest a' w')→wpList P all Q (l++rest) a w:=by
 intro n;induction n with
 | zero=>intro items l rest σ σ' γ a w G _ _ _ hr;cases hr
 | succ n ih =>
   intro items l rest σ σ' γ a w G hit hG hd hr h hK;cases hit with
   | nil =>
     obtain rfl:=ax hr;exact hK γ a w h (Ext.refl _ _ _ _) (fun t _=>rfl)
   | @cons i o o' r l h1 h2 h3 =>
     have Gv:o'.dst=o.dst:=by rcases h2 with rfl|⟨_,_,_,rfl⟩<;>rfl
     unfold jZ at hr;split at hr
     ·rename_i hg;obtain⟨σ1,r1,r2⟩:=bind_some hr;have hw:Region.wanted o (yielded all a.tmps)=true:=by
       rcases h2 with rfl|⟨g,k1,k2,k3⟩
       ·unfold Region.wanted;rw[hg]
       ·exact hG.wanted k1 k2
      have UB:(jY cx nb bf inl o σ).run=some σ1:=by
       rcases h2 with rfl|⟨g,k1,k2,rfl⟩
       ·exact r1
       ·exact r1
      show wpList P all Q (o::(l++rest)) a w
      unfold wpList;rw[hw];simp only[jr];refine .inl (zW hc dc iq h (fun k hk=>hd i o' (nG ..) k (by rw[Gv];exact hk)) UB fun ff v w1 s1 x1=>?_);have TE:=hG.put v;rw[Gv] at TE;refine ih h3 TE (fun i o hm=>hd i o (nF _ hm)) r2 s1 fun tG a2 w2 s2 x2 f2=>hK tG a2 w2 s2 (x1.trans x2) fun t ht=>?_;obtain⟨t1,t2⟩:=p5 ht;rw[f2 t t2,er (by rw[←Gv];exact t1)]
     ·rename_i j want hg;dsimp only at hr;split at hr
      ·exact absurd hr (by intro k;cases k)
      rename_i dj Sn;split at hr
      case h_2=>exact absurd hr (by intro k;cases k)
      rename_i c ip pk rest' vE mQ;change Bool at c;cases hh:jc dj (under j want [] ((i,o')::r)).1 with
      | true=>rw[hh] at hr;exact absurd hr (by intro k;cases k)
      | false =>
      rw[hh] at hr;simp only[gj] at hr;split at hr
      ·exact absurd hr (by intro k;cases k)
      rename_i UC;have Pw:a.tmps[dj]?=some (.bool c):=xQ h vE;obtain⟨l1,l2,e1,I1,I2⟩:=EO (j:=j) (want:=want) (inner:=[]) (kT.cons h1 h2 h3);obtain⟨d1,d2⟩:=GD (p:=fun d=>∀k,d=some k→k<N) (j:=j) (want:=want) (inner:=[]) hd;have OV:∀d,jc d ((i,o')::r)=(jc d (under j want [] ((i,o')::r)).1||jc d (under j want [] ((i,o')::r)).2):=fun d=>GC;have QV:=fun(ES:c≠want)=>GA (P:=P) (w:=w) (Q:=Q) Sn ES (kT.cons h1 h2 h3) Pw hh (fun k hk=>by cases hk);generalize hg1:(under j want [] ((i,o')::r)).1=g1 at *;rw[mQ] at I2 d2 OV;cases I2 with
      | @cons _ Kl _ _ QW p1 p2 p3 =>
      have Px:pk.dst=Kl.dst:=by rcases p2 with rfl|⟨_,_,_,rfl⟩<;>rfl
      have So:pk.op=Kl.op:=by rcases p2 with rfl|⟨_,_,_,rfl⟩<;>rfl
      rw[e1,nH];have hsplit:∀{d},jc d ((i,o')::r)=false→jc d g1=false∧Kl.dst≠some d∧jc d rest'=false:=by
       intro d hd0;rw[OV] at hd0;simp only[A7] at hd0;obtain⟨q1,q2⟩:=p5 hd0.2;exact⟨hd0.1,by rw[←Px];exact q1,q2⟩
      have tail:∀(ff:Gh) (τ σ2:St) (a1:Act) (w1:World) (v:ay) (b:Bool),bZ B N ff τ a1 w1→Fr g1 a a1→c=b→qw τ pk dj b=some v →
        (∀y,bH ff τ.mem w1 v .val [y]→∃tG,bZ B N tG σ2 (a1.put Kl.dst y) w1∧Ext B γ σ.mem w tG σ2.mem w1)→(jZ cx nb bf inl all n rest' σ2).run=some σ' →
        wpList P all Q (Kl::QW++rest) a1 w1:=by
       intro ff τ σ2 a1 w1 v b s1 f1 hcb Cj hy hev;have TF:EP all G a1 ((ip,pk)::rest'):=fun g QX=>by
        obtain⟨RC,k1,k2,k3⟩:=hG g QX;obtain⟨q1,q2,q3⟩:=hsplit k3;refine⟨RC,k1,by rw[f1 RC q1];exact k2,?_⟩;simp only[jc,A7];refine⟨?_,q3⟩;cases hpk:pk.dst with
        | none=>rfl
        | some k=>exact fJ fun e=>q2 (by rw[←Px,hpk,e])
       have hwp:Region.wanted Kl (yielded all a1.tmps)=true:=by
        rcases p2 with rfl|⟨g,k1,k2,k3⟩
        ·unfold Region.wanted;rw[UC]
        ·exact TF.wanted k1 k2
       show wpList P all Q (Kl::(QW++rest)) a1 w1
       unfold wpList;rw[hwp];simp only[jr];have Sp:qw τ Kl dj b=some v:=by rw[←Cj];unfold qw;rw[So]
       refine .inl (GB s1 (by rw[f1 dj hh];exact Pw) hcb Sp fun y Rx=>?_);obtain⟨tG,s2,x2⟩:=hy y Rx;have TG:=TF.put y;rw[Px] at TG;refine ih p3 TG (fun i o hm=>d2 i o (nF _ hm)) hev s2 fun Sq a3 w3 s3 x3 f3=>hK Sq a3 w3 s3 (x2.trans x3) fun t ht=>?_;obtain⟨q1,q2,q3⟩:=hsplit ht;rw[f3 t q3,er q2,f1 t q1]
      have OW:∀(τ:St) (d:Option Nat) (v:ay),(τ.aD d v).mem=τ.mem:=fun τ d v=>by cases d<;>rfl
      have hpk:∀k,Kl.dst=some k→k<N:=fun k hk=>d2 ip pk (nG ..) k (by rw[Px];exact hk);have TH:c=want→EP all ((j,want)::G) a g1:=fun ES g QX=>by
       rcases List.mem_cons.1 QX with rfl|QX
       ·exact⟨dj,Sn,by rw[←ES];exact Pw,hh⟩
       ·obtain⟨RC,k1,k2,k3⟩:=hG g QX;exact⟨RC,k1,k2,(hsplit k3).1⟩
      have eU:c≠want→(∀a1,Fr g1 a a1→a1.tmps.size=a.tmps.size→a1.defers=a.defers→wpList P all Q (Kl::QW++rest) a1 w)→wpList P all Q (l1++(Kl::QW++rest)) a w:=by
       intro ES hk;obtain⟨m1,m2,q1,q2,q3⟩:=QV ES;rw[e1] at q1;obtain⟨rfl,rfl⟩:=List.append_inj q1 (by rw[q2,I1.length]);exact q3 _ hk
      cases hin:yO cx g1 with
      | true =>
        rw[hin] at hr;simp only[jk] at hr;obtain⟨σ2,hn,hev⟩:=bind_some hr;rcases ET (c:=c) (want:=want) hn with ⟨ES,hn⟩|⟨ES,QU,hn⟩
        ·obtain⟨τ,t1,t2⟩:=bind_some hn;split at t2
         ·rename_i v Cj;obtain rfl:=ax t2;refine ih I1 (TH ES) d1 t1 h fun ff a1 w1 s1 x1 f1=>tail ff τ _ a1 w1 v want s1 f1 ES Cj (fun y hy=>⟨ff,?_,?_⟩) hev
          ·rw[Px];exact s1.nR hpk hy
          ·rw[OW];exact x1
         ·exact absurd t2 (by intro k;cases k)
        ·split at hn
         ·rename_i v Cj;obtain rfl:=ax hn;refine eU ES fun a1 f1 f2 f3=>tail γ (σ.undef g1) _ a1 w v (!want) (h.undef f1 (f2.trans h.size) (f3.trans h.defers)) f1 QU Cj (fun y hy=>⟨γ,?_,?_⟩) hev
          ·rw[Px];exact(h.undef f1 (f2.trans h.size) (f3.trans h.defers)).nR hpk hy
          ·rw[OW,nE];exact Ext.refl _ _ _ _
         ·exact absurd hn (by intro k;cases k)
      | false =>
        rw[hin] at hr;simp only[gj] at hr;split at hr
        case h_2=>exact absurd hr (by intro k;cases k)
        rename_i t dp hT UD;rw[Tree.rH] at hr;obtain⟨x,hn,hev⟩:=Option.bind_eq_some_iff.1 hr;have NG:Kl.dst=some dp:=by rw[←Px];exact UD
        rcases ET (c:=c) (want:=want) hn with ⟨ES,hn⟩|⟨ES,QU,hn⟩
        ·obtain⟨τ,t1,t2⟩:=bind_some hn;split at t2
         ·rename_i x' Cj;obtain rfl:=ax t2;obtain⟨v,hv1,Ki⟩:=Option.bind_eq_some_iff.1 Cj;refine ih I1 (TH ES) d1 t1 h.fA fun ff a1 w1 s1 x1 f1=>tail ff τ _ a1 w1 v want s1 f1 ES hv1 (fun y hy=>?_) hev;obtain⟨m1,m2⟩:=h.ok.unlock (Di (vD hkeep n g1 _ τ t1)) s1.ok x1;have hS:bZ B N ff σ a w1:=h.go m2 m1;have UE:=hS.undef f1 s1.size s1.defers;refine⟨ff,?_,?_⟩
          ·rw[NG];exact UE.nR (d:=some dp) (fun k hk=>hpk k (by rw[NG];exact hk)) (H8 Ki hy)
          ·show Ext B γ σ.mem w ff (σ.undef g1).mem w1
           rw[nE];exact m2
         ·exact absurd t2 (by intro k;cases k)
        ·split at hn
         ·rename_i x' Cj;obtain rfl:=ax hn;obtain⟨v,hv1,Ki⟩:=Option.bind_eq_some_iff.1 Cj;refine eU ES fun a1 f1 f2 f3=>tail γ (σ.undef g1) _ a1 w v (!want) (h.undef f1 (f2.trans h.size) (f3.trans h.defers)) f1 QU hv1 (fun y hy=>⟨γ,?_,?_⟩) hev
          ·rw[NG];exact(h.undef f1 (f2.trans h.size) (f3.trans h.defers)).nR (d:=some dp) (fun k hk=>hpk k (by rw[NG];exact hk)) (H8 Ki hy)
          ·show Ext B γ σ.mem w γ (σ.undef g1).mem w
           rw[nE];exact Ext.refl _ _ _ _
         ·exact absurd hn (by intro k;cases k)
end
end Go.Ge
namespace Go.Ge
open RowKit
section
variable {P:Program} {B:ld} {N:Nat} {γ:Gh} {σ σ':St} {a:Act} {w w':World} {cx:Ctx} {nb:Nat} {bf:List Nat} {inl:Nat→List ay→St→Tree (ay×St)} {ops:Array Oper}
theorem Dj:∀{l:List Oper} {k:Nat},(∀j,l[j]?=ops[k+j]?)→kT ops [] (number k l) l:=by
 intro l;induction l with
 | nil=>intro k _;exact .nil
 | cons o l ih =>
   intro k h;refine .cons ?_ (.inl rfl) (ih fun j=>by have:=h (j+1);simpa [wB,HS 1 j] using this);have:=h 0;simpa using this.symm
theorem GF:∀{l:List Oper} {k i:Nat} {o:Oper},(i,o)∈number k l→o∈l:=by
 intro l;induction l with
 | nil=>intro k i o h;cases h
 | cons p l ih =>
   intro k i o h;rcases List.mem_cons.1 h with h|h
   ·obtain⟨_,rfl⟩:=cr h;exact nG ..
   ·exact nF _ (ih h)
theorem Dk(hc:eo P cx)(dc:jP P B.G cx)(iq:oE P B.G inl)(hkeep:∀f vals σ v σ',(inl f vals σ).run=some (v,σ')→aN σ σ'){Q:Exit→Act→World→Prop}{id:Nat}
  (hd:∀o∈ops.toList,∀k,o.dst=some k→k<N) (hr:(zn cx nb bf inl ops σ).run=some σ') (h:bZ B N γ σ a w)
  (hK:∀γ' a' w',bZ B N γ' σ' a' w'→Ext B γ σ.mem w γ' σ'.mem w'→Fr (number 0 ops.toList) a a'→Q .normal a' w'):(Code.region id ops false).wp P Q a w:=by
 refine wp_region_list ?_;have:=Br (all:=ops) (Q:=Q) (rest:=[]) hc dc iq hkeep _ (Dj (l:=ops.toList) (k:=0) (fun j=>by simp)) (fun g hg=>by cases hg) (fun i o hm=>hd o (GF hm)) hr h
  (fun γ' a' w' s x f=>wpList_nil (hK γ' a' w' s x f))
 simpa using this
end
end Go.Ge
namespace Go.Ge
open RowKit
def fD(p:Nat→Prop)(σ τ:St):Prop:=∀b,τ.mem b=σ.mem b∨(τ.mem b≠none∧p b)
section
variable {p:Nat→Prop} {σ τ ρ:St}
theorem fD.refl(σ:St):fD p σ σ:=fun _=>.inl rfl
theorem fD.Lt(h:τ.mem=σ.mem):fD p σ τ:=fun b=>.inl (by rw[h])
theorem fD.trans(h:fD p σ τ)(k:fD p τ ρ):fD p σ ρ:=fun b=>by
 rcases k b with k1|k1
 ·rcases h b with h1|⟨h1,h2⟩
  ·exact .inl (k1.trans h1)
  ·exact .inr ⟨by rw[k1];exact h1,h2⟩
 ·exact .inr k1
theorem fD.aD(σ:St)(d:Option Nat)(v:ay):fD p σ (σ.aD d v):=by cases d<;>exact fun _=>.inl rfl
theorem fD.put(σ:St)(d:Nat)(v:ay):fD p σ (σ.put d v):=fun _=>.inl rfl
theorem fD.bJ{b:Nat}{bx:aY}(h:p b):fD p σ (σ.bJ b bx):=fun c=>by
 by_cases e:c=b
 ·subst e;exact .inr ⟨by simp[St.bJ],h⟩
 ·exact .inl (by rw[nS,aB _ e])
end
def av(p:Nat→Prop)(σ:St)(T:Tree St):Prop:=∀y,T.run=some y→fD p σ y
section
variable {p:Nat→Prop} {σ:St}
theorem av.fail:av p σ .fail:=fun y h=>by cases h
theorem av.ret{σ':St}(h:fD p σ σ'):av p σ (.ret σ'):=fun y hy=>by obtain rfl:=ax hy;exact h
theorem av.bif{c:Bool}{t:Tree St}(h:av p σ t):av p σ (bif c then t else .fail):=fun y hy=>h y (aq hy).2
theorem av.need{c:Bool}{t:Tree St}(h:av p σ t):av p σ (.need c t):=fun y hy=>h y (bK hy).2
theorem av.look{T:Type}{o:Option T}{k:T→Tree St}(h:∀x,av p σ (k x)):av p σ (.look o k):=fun y hy=>by obtain⟨x,_,h2⟩:=bE hy;exact h x y h2
theorem av.node{c:Bool}{t e:Tree St}(h:av p σ t)(k:av p σ e):av p σ (.node c t e):=fun y hy=>by
 have:=eI hy;cases c with
 | true=>exact h y this
 | false=>exact k y this
theorem av.bind{α:Type}{t:Tree α}{f:α→Tree St}(h:∀x,t.run=some x→av p σ (f x)):av p σ (t.bind f):=fun y hy=>by obtain⟨x,h1,h2⟩:=bind_some hy;exact h x h1 y h2
theorem av.aA{b:Nat}{val:ay}{tid:TypeId}{buf:Bool}{d:Nat}{v:Nat→ay}(h:p b):av p σ (σ.aA b val tid buf fun aj σ=>.ret (σ.put d (v aj))):=fun y hy=>by
 obtain⟨aj,k1,k2⟩:=gK hy;obtain rfl:=ax k2;exact(fD.bJ h).trans (fD.put _ _ _)
theorem Ad{σ σ':St}{b:Nat}(hp:∀b,σ.mem b≠none→p b)(h:freeze σ b=some σ'):fD p σ σ':=by
 unfold freeze at h;split at h
 ·rename_i bx hb;cases hro:bx.ro with
  | true=>simp only[hro,jk,jU] at h;rw[←h];exact fD.refl _
  | false =>
    cases hlk:bx.lk with
    | true=>simp[hro,hlk] at h
    | false =>
      simp only[hro,hlk,gj,jU] at h;rw[←h];exact fD.bJ (hp b (by rw[hb];simp))
 ·cases h
def Dom(p:Nat→Prop)(σ σ':St):Prop:=(∀b,σ.mem b≠none→p b)→fD p σ σ'∧∀b,σ'.mem b≠none→p b
theorem Dom.refl(σ:St):Dom p σ σ:=fun h=>⟨fD.refl _,h⟩
theorem Dom.trans{σ τ ρ:St}(h:Dom p σ τ)(k:Dom p τ ρ):Dom p σ ρ:=fun hp=>by
 obtain⟨h1,h2⟩:=h hp;obtain⟨k1,k2⟩:=k h2;exact⟨h1.trans k1,k2⟩
theorem Dom.of{σ σ':St}(h:(∀b,σ.mem b≠none→p b)→fD p σ σ'):Dom p σ σ':=fun hp=>by
 refine⟨h hp,fun b hb=>?_⟩;rcases h hp b with k|k
 ·exact hp b (by rw[←k];exact hb)
 ·exact k.2
theorem EU:∀{v:ay} {σ σ':St},eT σ v=some σ'→Dom p σ σ':=by
 intro v;induction v with
 | mix p q pY pg =>
   intro σ σ' h;obtain⟨σ1,h1,h2⟩:=oD h;exact(pY h1).trans (pg h2)
 | whole b aj=>intro σ σ' h;exact Dom.of fun hp=>Ad hp h
 | part b aj lo n=>intro σ σ' h;exact Dom.of fun hp=>Ad hp h
 | _=>intro σ σ' h;obtain rfl:=ax h;exact Dom.refl _
theorem p6{t:Ty}{x:t.den}{v:ay}{σ σ':St}(h:pP σ t v=some (x,σ')):Dom p σ σ':=by
 unfold pP at h;split at h
 ·split at h
  ·obtain⟨_,rfl⟩:=cr (ax h);exact Dom.refl _
  ·cases h
 ·split at h
  ·rename_i y σ1 hl hf;obtain⟨_,rfl⟩:=cr (ax h);exact EU hf
  ·cases h
theorem r5:∀{A:Ty} {x:A.den} {vs:List ay} {σ σ':St},gM σ A vs=some (x,σ')→Dom p σ σ':=by
 intro A;induction A with
 | pair t r F3 ihr =>
   intro x vs σ σ' hl;cases vs with
   | nil=>cases hl
   | cons v vs =>
     simp only[gM] at hl;split at hl
     ·rename_i p σ1 hp;split at hl
      ·rename_i q σ2 hq;obtain⟨_,rfl⟩:=cr (ax hl);exact(p6 hp).trans (ihr hq)
      ·cases hl
     ·cases hl
 | unit =>
   intro x vs σ σ' hl;cases vs with
   | nil=>obtain⟨_,rfl⟩:=cr (ax hl);exact Dom.refl _
   | cons v vs=>cases hl
 | _=>intro x vs σ σ' hl;cases vs<;>cases hl
theorem Ae{t:Ty}:∀{parts:List (Nat×Operand)} {x x':t.den} {σ σ':St},eL σ t x parts=some (x',σ')→Dom p σ σ':=by
 intro parts;induction parts with
 | nil=>intro x x' σ σ' h;obtain⟨_,rfl⟩:=cr (ax h);exact Dom.refl _
 | cons p r ih =>
   obtain⟨k,o⟩:=p;intro x x' σ σ' h;simp only[eL] at h;split at h
   ·split at h
    ·rename_i hg;split at h
     ·exact(p6 hg).trans (ih h)
     ·cases h
    ·cases h
   ·cases h
theorem tK{e:Ty}:∀{parts:List (Nat×Operand)} {l l':List e.den} {σ σ':St},eF σ e l parts=some (l',σ')→Dom p σ σ':=by
 intro parts;induction parts with
 | nil=>intro x x' σ σ' h;obtain⟨_,rfl⟩:=cr (ax h);exact Dom.refl _
 | cons p r ih =>
   obtain⟨k,o⟩:=p;intro l l' σ σ' h;simp only[eF] at h;split at h
   ·rename_i hg;cases hlt:Nat.blt k l.length with
    | false=>rw[hlt] at h;cases h
    | true=>rw[hlt] at h;exact(p6 hg).trans (ih h)
   ·cases h
theorem xR{b aj:Nat}{p':List uh}{fit:ay→Bool}{u:ay}{σ σ':St}(hr:(storeAt b aj p' fit u σ).run=some σ'):Dom p σ σ':=Dom.of fun hp=>by
 unfold storeAt at hr;split at hr
 case h_2=>exact absurd hr (by intro k;cases k)
 rename_i bx hb;obtain⟨hc,hr2⟩:=aq hr;obtain⟨old,hn,fQ⟩:=bind_some hr2;obtain⟨hfit,iY⟩:=aq fQ;obtain⟨c,hs,Bc⟩:=bind_some iY;obtain rfl:=ax Bc;exact fD.bJ (hp b (by rw[hb];simp))
theorem EV{b aj:Nat}{p':List uh}{n:Nat}{u:ay}{σ σ':St}(hr:(lC b aj p' n u σ).run=some σ'):Dom p σ σ':=Dom.of fun hp=>by
 unfold lC at hr;split at hr
 case h_2=>exact absurd hr (by intro k;cases k)
 rename_i bx hb;obtain⟨hc,hr2⟩:=aq hr;obtain⟨old,hn,fQ⟩:=bind_some hr2;obtain⟨hfit,iY⟩:=aq fQ;obtain⟨c,hs,Bc⟩:=bind_some iY;obtain⟨R6,QE⟩:=aq Bc;obtain rfl:=ax QE;exact fD.bJ (hp b (by rw[hb];simp))
theorem Bs{cx:Ctx}{bf:List Nat}{ty:TypeId}{x y:ay}{σ σ':St}(hr:(gX cx bf ty x y σ).run=some σ'):Dom p σ σ':=by
 unfold gX at hr;split at hr
 case h_2=>exact absurd hr (by intro k;cases k)
 split at hr
 case h_2=>exact absurd hr (by intro k;cases k)
 obtain⟨aI,hr2⟩:=aq hr;obtain⟨old,hn,fQ⟩:=bind_some hr2;split at fQ
 ·rename_i u _;obtain⟨hT,iY⟩:=aq fQ;cases hq:b6 bf 8000000&&KX u y with
  | true=>rw[hq] at iY;exact EV iY
  | false =>
  rw[hq] at iY;replace iY:(match pP σ u y with|some (y,σ)=>storeAt _ _ _ (IX u) (.data u y) σ|none=>.fail).run=some σ':=iY;split at iY
  ·rename_i hg;exact(p6 hg).trans (xR iY)
  ·exact absurd iY (by intro k;cases k)
 ·obtain⟨hT,iY⟩:=aq fQ;exact xR iY
theorem r8{cx:Ctx}{nb:Nat}{d:Option Nat}{ty:TypeId}{s x:ay}{σ σ':St}(hn:∀k,d=some k→p (nb+k))(hp:∀b,σ.mem b≠none→p b)(hr:(fh cx nb d ty s x σ).run=some σ'):fD p σ σ':=by
 unfold fh at hr;split at hr
 case h_2=>exact absurd hr (by intro k;cases k)
 split at hr
 case h_2=>exact absurd hr (by intro k;cases k)
 split at hr
 ·obtain⟨hf,hr2⟩:=bK hr;exact av.aA (hn _ rfl) _ hr2
 ·split at hr
  case h_2=>exact absurd hr (by intro k;cases k)
  rename_i bx l hb hl;obtain⟨hlk,gE⟩:=qC hr;obtain⟨hf,hr2⟩:=bK gE;obtain rfl:=ax hr2;exact(fD.bJ (hp _ (by rw[hb];simp))).trans (fD.put _ _ _)
 ·exact absurd hr (by intro k;cases k)
theorem Af{b:Nat}{val:ay}{tid:TypeId}{buf:Bool}{d:Nat}{v:Nat→ay}{σ σ':St}(h:p b)(hr:(σ.aA b val tid buf fun aj σ=>.ret (σ.put d (v aj))).run=some σ'):fD p σ σ':=av.aA h _ hr
theorem Bt{nb:Nat}{e:Ty}{d:Option Nat}{args:List ay}{σ σ':St}(hn:∀k,d=some k→p (nb+k))(hp:∀b,σ.mem b≠none→p b)(hr:(hU nb e d args σ).run=some σ'):fD p σ σ':=by
 unfold hU at hr;split at hr
 case h_2=>cases hr
 split at hr
 case h_2=>cases hr
 rename_i hg;obtain⟨_,hr⟩:=aq hr;obtain⟨_,hr⟩:=bK hr;exact((p6 hg) hp).1.trans (Af (hn _ rfl) hr)
theorem Bu{nb g:Nat}{d:Option Nat}{args:List ay}{σ σ':St}(hn:∀k,d=some k→p (nb+k))(hr:(hY nb g d args σ).run=some σ'):fD p σ σ':=by
 unfold hY at hr;split at hr
 ·cases hr
 ·cases hr
 ·exact Af (v:=fun aj=>.fn g [(_,aj)]) (hn _ rfl) hr
 ·cases hr
theorem EW{e A:Ty}{res:Bool}{spec:List e.den→A.den→Option (List e.den)}{d:Option Nat}{args:List ay}{σ σ':St}(hp:∀b,σ.mem b≠none→p b)(hr:(lD e A res spec d args σ).run=some σ'):fD p σ σ':=by
 unfold lD at hr;split at hr
 case h_2=>cases hr
 split at hr
 case h_2=>cases hr
 rename_i x σ1 hg;split at hr
 case h_2=>cases hr
 rename_i b aj bx l OS;obtain⟨l',_,hr⟩:=bE hr;obtain⟨hb,_⟩:=lZ OS;obtain⟨g1,g2⟩:=(r5 hg) hp;have key:∀fM,fD p σ1 (σ1.bJ b fM):=fun fM=>fD.bJ (g2 b (by rw[hb];simp));cases res with
 | true =>
   cases d with
   | none=>cases hr
   | some k=>obtain rfl:=ax hr;exact(g1.trans (key _)).trans (fD.put _ _ _)
 | false =>
   cases d with
   | none=>obtain⟨_,hr⟩:=aq hr;obtain rfl:=ax hr;exact(g1.trans (key _)).trans (fD.aD _ none _)
   | some k=>obtain⟨_,hr⟩:=aq hr;obtain rfl:=ax hr;exact(g1.trans (key _)).trans (fD.aD _ (some _) _)
end
section
variable {cx:Ctx} {nb:Nat} {bf:List Nat} {d:Option Nat} {σ:St} {p:Nat→Prop}
theorem Dl{c a b:ay}:av p σ (ju d c a b σ):=by unfold ju;(repeat' (first|exact av.fail|exact av.ret (fD.aD _ _ _)|exact av.ret (fD.put _ _ _)|exact av.aA (by assumption)|refine av.bif ?_|refine av.need ?_|refine av.look fun _=>?_|refine av.node ?_ ?_|refine av.bind fun _ _=>?_|split))
theorem Dm{ty:TypeId}{a:ay}:av p σ (gR cx d ty a σ):=by unfold gR;(repeat' (first|exact av.fail|exact av.ret (fD.aD _ _ _)|exact av.ret (fD.put _ _ _)|exact av.aA (by assumption)|refine av.bif ?_|refine av.need ?_|refine av.look fun _=>?_|refine av.node ?_ ?_|refine av.bind fun _ _=>?_|split))
theorem Bw{ty:TypeId}{x:ay}{lo hi:Option Operand}:av p σ (gY cx d ty x lo hi σ):=by unfold gY;(repeat' (first|exact av.fail|exact av.ret (fD.aD _ _ _)|exact av.ret (fD.put _ _ _)|exact av.aA (by assumption)|refine av.bif ?_|refine av.need ?_|refine av.look fun _=>?_|refine av.node ?_ ?_|refine av.bind fun _ _=>?_|split))
theorem Jh{b aj:Nat}{i:Int}:∀{m k:Nat},av p σ (zk d b aj σ i m k):=by
 intro m;induction m with
 | zero=>intro k;exact av.fail
 | succ m ih=>intro k;exact av.node (av.ret (fD.aD _ _ _)) ih
theorem oF{ty:TypeId}{x:ay}{i:Int}:av p σ (cQ cx d ty x i σ):=by
 unfold cQ;split
 case h_6=>split
           ·exact av.bif Jh
           ·exact av.fail
 all_goals (repeat' (first|exact av.fail|exact av.ret (fD.aD _ _ _)|exact av.ret (fD.put _ _ _)|exact av.aA (by assumption)|refine av.bif ?_|refine av.need ?_|refine av.look fun _=>?_|refine av.node ?_ ?_|refine av.bind fun _ _=>?_|split))
theorem Bx{ty:TypeId}{x:ay}{i:Int}:av p σ (gZ cx d ty x i σ):=by
 unfold gZ;split
 ·refine av.bif ?_;split
  ·exact av.bif (av.ret (fD.aD _ _ _))
  ·exact av.fail
 ·exact oF
theorem Bz{ty:TypeId}{x:ay}{i:Int}:av p σ (hJ cx d ty x i σ):=by unfold hJ;(repeat' (first|exact av.fail|exact av.ret (fD.aD _ _ _)|exact av.ret (fD.put _ _ _)|exact av.aA (by assumption)|refine av.bif ?_|refine av.need ?_|refine av.look fun _=>?_|refine av.node ?_ ?_|refine av.bind fun _ _=>?_|split))
theorem vF{s:TypeId}{x:ay}{k:Nat}:av p σ (dw cx d s x k σ):=by unfold dw;(repeat' (first|exact av.fail|exact av.ret (fD.aD _ _ _)|exact av.ret (fD.put _ _ _)|exact av.aA (by assumption)|refine av.bif ?_|refine av.need ?_|refine av.look fun _=>?_|refine av.node ?_ ?_|refine av.bind fun _ _=>?_|split))
theorem r9{ty:TypeId}{v:ay}(hn:∀k,d=some k→p (nb+k)):av p σ (gm cx nb bf d ty v σ):=by
 unfold gm;split
 ·(repeat' (first|exact av.fail|exact av.ret (fD.aD _ _ _)|exact av.ret (fD.put _ _ _)|exact av.aA (by assumption)|refine av.bif ?_|refine av.need ?_|refine av.look fun _=>?_|refine av.node ?_ ?_|refine av.bind fun _ _=>?_|split))
 ·split
  ·rename_i k e _;cases b6 bf k with
   | true=>exact av.aA (hn _ rfl)
   | false=>exact av.ret (fD.put _ _ _)
  ·exact av.ret (fD.aD _ _ _)
 ·exact av.ret (fD.aD _ _ _)
theorem yB{s t:TypeId}{x:ay}(hn:∀k,d=some k→p (nb+k)):av p σ (eW cx nb d s t x σ):=by
 unfold eW;split
 ·(repeat' (first|exact av.fail|exact av.ret (fD.aD _ _ _)|exact av.ret (fD.put _ _ _)|exact av.aA (by assumption)|refine av.bif ?_|refine av.need ?_|refine av.look fun _=>?_|refine av.node ?_ ?_|refine av.bind fun _ _=>?_|split))
 ·(repeat' (first|exact av.fail|exact av.ret (fD.aD _ _ _)|exact av.ret (fD.put _ _ _)|exact av.aA (by assumption)|refine av.bif ?_|refine av.need ?_|refine av.look fun _=>?_|refine av.node ?_ ?_|refine av.bind fun _ _=>?_|split))
 ·split
  ·exact av.need (av.aA (hn _ rfl))
  ·exact av.fail
 ·(repeat' (first|exact av.fail|exact av.ret (fD.aD _ _ _)|exact av.ret (fD.put _ _ _)|exact av.aA (by assumption)|refine av.bif ?_|refine av.need ?_|refine av.look fun _=>?_|refine av.node ?_ ?_|refine av.bind fun _ _=>?_|split))
 ·(repeat' (first|exact av.fail|exact av.ret (fD.aD _ _ _)|exact av.ret (fD.put _ _ _)|exact av.aA (by assumption)|refine av.bif ?_|refine av.need ?_|refine av.look fun _=>?_|refine av.node ?_ ?_|refine av.bind fun _ _=>?_|split))
theorem Ck{mem:Nat→Option aY}:∀{o:OT} {v:ay} {u:o.den} {N M:List (Nat×Nat)},cj mem o v=some (u,N,M)→∀b∈aT N M,mem b≠none:=by
 intro o;induction o with
 | dat t =>
   intro v u N M h;unfold cj at h;split at h
   ·cases h;intro b hb;cases hb
   ·cases h
 | buf e cq =>
   intro v u N M h;unfold cj at h;split at h
   case h_2=>cases h
   rename_i b aj;split at h
   case h_2=>cases h
   rename_i bx hb;cases hcd:(Nat.beq bx.aj aj&&bx.buf&&!bx.lk&&!bx.ro&&Nat.beq bx.tid cq&&Nat.blt 0 e.size) with
   | false=>rw[hcd] at h;cases h
   | true =>
     rw[hcd] at h;simp only[jk] at h;split at h
     case h_2=>cases h
     split at h
     case h_2=>cases h
     cases h;intro c hc;have:c=b:=by simpa [aT] using hc
     subst this;rw[hb];simp
 | ref tid o ih =>
   intro v u N M h;unfold cj at h;split at h
   case h_2=>cases h
   rename_i b aj;split at h
   case h_2=>cases h
   rename_i bx hb;cases hcd:(Nat.beq bx.aj aj&&!bx.buf&&!bx.lk&&!bx.ro&&Nat.beq bx.tid tid) with
   | false=>rw[hcd] at h;cases h
   | true =>
     rw[hcd] at h;simp only[jk] at h;split at h
     case h_2=>cases h
     rename_i u1 N1 M1 hr;cases h;intro c hc;unfold aT at hc;simp only[mT,D8,CH] at hc;rcases hc with rfl|hc
     ·rw[hb];simp
     ·exact ih hr c hc
 | pair p q pY pg =>
   intro v u N M h;unfold cj at h;split at h
   case h_2=>cases h
   split at h
   case h_2=>cases h
   rename_i x N1 M1 y N2 M2 h1 h2;cases h;intro c hc;unfold aT at hc;simp only[tc,D9] at hc;rcases hc with (hc|hc)|(hc|hc)
   ·exact pY h1 c (tC _ hc)
   ·exact pg h2 c (tC _ hc)
   ·exact pY h1 c (sK _ hc)
   ·exact pg h2 c (sK _ hc)
 | unit =>
   intro v u N M h;unfold cj at h;split at h
   case h_2=>cases h
   cases h;intro b hb;cases hb
theorem EX{σ:St}:∀{ps:List Bool} {A:Ty} {U:OT} {vs:List ay} {x:A.den} {u:U.den} {N M:List (Nat×Nat)},eG σ ps A U vs=some (x,u,N,M)→∀b∈aT N M,σ.mem b≠none:=by
 intro ps;induction ps with
 | nil =>
   intro A U vs x u N M h;cases A<;>first|(cases h;done)|skip
   cases U<;>first|(cases h;done)|skip
   cases vs with
   | cons v r=>cases h
   | nil=>cases h;intro b hb;cases hb
 | cons q ps ih =>
   intro A U vs x u N M h;cases q with
   | false =>
     cases A<;>first|(cases h;done)|skip
     cases vs with
     | nil=>cases h
     | cons v r =>
       simp only[eG] at h;split at h
       ·rename_i h2;cases h;exact ih h2
       ·cases h
   | true =>
     cases U<;>first|(cases h;done)|skip
     rename_i o U;cases o<;>first|(cases h;done)|skip
     cases vs with
     | nil=>cases h
     | cons v r =>
       simp only[eG] at h;split at h
       ·rename_i x1 N1 M1 y1 u1 N2 M2 h1 h2;cases h;intro c hc;unfold aT at hc;simp only[tc,D9] at hc;rcases hc with (hc|hc)|(hc|hc)
        ·exact Ck h1 c (tC _ hc)
        ·exact ih h2 c (tC _ hc)
        ·exact Ck h1 c (sK _ hc)
        ·exact ih h2 c (sK _ hc)
       ·cases h
theorem EY{ps:List Bool}{A:Ty}{U:OT}{vs:List ay}{x:A.den}{u y:U.den}{N M:List (Nat×Nat)}(h:eG σ ps A U vs=some (x,u,N,M))(hp:∀b,σ.mem b≠none→p b):fD p σ (gN U y N M σ):=fun b=>by
 rw[eX];cases hv:fI U y N (M.map fun p=>(p.1,p.2+1)) b with
 | none=>exact .inl rfl
 | some v=>exact .inr ⟨by simp,hp b (EX h b (by have:=jH hv;rwa [nV] at this))⟩
theorem GG{o:Oper}{ge:Option Nat}(hge:jv o σ=ge)(h3:cls cx ge o≠3)(hn:cls cx ge o≠0→∀k,o.dst=some k→p (nb+k))(hp:cls cx ge o≠0→cls cx ge o≠1→∀b,σ.mem b≠none→p b):av p σ (jY cx nb bf rL o σ):=by
 unfold jY;split
 case h_1 x ho=>exact r9 (hn (by simp[cls,ho]))
 case h_2 x ho=>exact r9 (hn (by simp[cls,ho]))
 case h_3=>exact Dl
 case h_4 e ho =>
  split
  ·rename_i k t hk hT;have h0:cls cx ge o≠0:=by
    cases t<;>simp[cls,ho,hT]
   unfold nB;split
   ·exact absurd (by simp[cls,ho,hT]) h3
   ·exact av.aA (hn h0 _ (by assumption))
  ·rename_i hT;split
   ·rename_i hO;exact absurd (by simp[cls,ho,hT,hO]) h3
   ·rename_i hO;exact av.bif (av.aA (hn (by simp[cls,ho,hT,hO]) _ (by assumption)))
  ·exact av.fail
 case h_5 e x ho =>
  unfold uT;split
  ·exact av.fail
  ·exact av.fail
  ·split
   ·rename_i hO;exact absurd (by simp[cls,ho,hO]) h3
   ·rename_i hO;exact av.aA (hn (by simp[cls,ho,hO]) _ (by assumption))
  ·exact av.fail
 case h_6 t ps ho =>
  have hp':=hp (by simp[cls,ho]) (by simp[cls,ho]);split
  ·split
   ·rename_i hb;exact av.ret ((Ae hb hp').1.trans (fD.aD _ _ _))
   ·exact av.fail
  ·split
   ·rename_i hb;exact av.ret ((tK hb hp').1.trans (fD.aD _ _ _))
   ·exact av.fail
  ·(repeat' (first|exact av.fail|exact av.ret (fD.aD _ _ _)|exact av.ret (fD.put _ _ _)|exact av.aA (by assumption)|refine av.bif ?_|refine av.need ?_|refine av.look fun _=>?_|refine av.node ?_ ?_|refine av.bind fun _ _=>?_|split))
  ·exact av.fail
 case h_7 t n ps ho =>
  have hp':=hp (by simp[cls,ho]) (by simp[cls,ho]);split
  ·split
   ·rename_i k aW hparts;exact av.aA (hn (by simp[cls,ho]) k (uz aW).1)
   ·refine av.bif ?_;split
    ·rename_i hb;exact av.ret ((tK hb hp').1.trans (fD.aD _ _ _))
    ·exact av.fail
  ·unfold sM;split
   ·exact av.bif (av.aA (hn (by simp[cls,ho]) _ (by assumption)))
   ·exact av.fail
  ·exact av.fail
 case h_8=>exact Dm
 case h_9 t a x ho =>
  have hp':=hp (by simp[cls,ho]) (by simp[cls,ho]);split
  ·exact fun y hy=>(Bs hy hp').1
  ·exact av.fail
 case h_10=>(repeat' (first|exact av.fail|exact av.ret (fD.aD _ _ _)|exact av.ret (fD.put _ _ _)|exact av.aA (by assumption)|refine av.bif ?_|refine av.need ?_|refine av.look fun _=>?_|refine av.node ?_ ?_|refine av.bind fun _ _=>?_|split))
 case h_11=>(repeat' (first|exact av.fail|exact av.ret (fD.aD _ _ _)|exact av.ret (fD.put _ _ _)|exact av.aA (by assumption)|refine av.bif ?_|refine av.need ?_|refine av.look fun _=>?_|refine av.node ?_ ?_|refine av.bind fun _ _=>?_|split))
 case h_12=>(repeat' (first|exact av.fail|exact av.ret (fD.aD _ _ _)|exact av.ret (fD.put _ _ _)|exact av.aA (by assumption)|refine av.bif ?_|refine av.need ?_|refine av.look fun _=>?_|refine av.node ?_ ?_|refine av.bind fun _ _=>?_|split))
 case h_13 s t x ho=>exact yB (hn (by simp[cls,ho]))
 case h_14=>(repeat' (first|exact av.fail|exact av.ret (fD.aD _ _ _)|exact av.ret (fD.put _ _ _)|exact av.aA (by assumption)|refine av.bif ?_|refine av.need ?_|refine av.look fun _=>?_|refine av.node ?_ ?_|refine av.bind fun _ _=>?_|split))
 case h_15=>exact Bw
 case h_16=>exact vF
 case h_17=>(repeat' (first|exact av.fail|exact av.ret (fD.aD _ _ _)|exact av.ret (fD.put _ _ _)|exact av.aA (by assumption)|refine av.bif ?_|refine av.need ?_|refine av.look fun _=>?_|refine av.node ?_ ?_|refine av.bind fun _ _=>?_|split))
 case h_18=>split
            ·cases b6 bf 5000000 with
             | true=>exact Bx
             | false=>exact oF
            ·exact av.fail
 case h_19=>split
            ·exact Bz
            ·exact av.fail
 case h_20 t l c ho =>
  split
  ·exact av.need (av.need (av.aA (hn (by simp[cls,ho]) _ (by assumption))))
  ·exact av.fail
 case h_21=>(repeat' (first|exact av.fail|exact av.ret (fD.aD _ _ _)|exact av.ret (fD.put _ _ _)|exact av.aA (by assumption)|refine av.bif ?_|refine av.need ?_|refine av.look fun _=>?_|refine av.node ?_ ?_|refine av.bind fun _ _=>?_|split))
 case h_22 c ho =>
  unfold nM;split
  ·rename_i b hb;split
   ·(repeat' (first|exact av.fail|exact av.ret (fD.aD _ _ _)|exact av.ret (fD.put _ _ _)|exact av.aA (by assumption)|refine av.bif ?_|refine av.need ?_|refine av.look fun _=>?_|refine av.node ?_ ?_|refine av.bind fun _ _=>?_|split))
   ·have h1:cls cx ge o≠0:=by simp[cls,ho,hb]
    have h2:cls cx ge o≠1:=by simp[cls,ho,hb]
    split
    ·exact fun y hy=>r8 (hn h1) (hp h1 h2) hy
    ·exact fun y hy=>r8 (hn h1) (hp h1 h2) hy
    ·exact av.fail
   ·exact absurd (by simp[cls,ho,hb]) h3
   ·exact absurd (by simp[cls,ho,hb]) h3
   ·(repeat' (first|exact av.fail|exact av.ret (fD.aD _ _ _)|exact av.ret (fD.put _ _ _)|exact av.aA (by assumption)|refine av.bif ?_|refine av.need ?_|refine av.look fun _=>?_|refine av.node ?_ ?_|refine av.bind fun _ _=>?_|split))
   ·(repeat' (first|exact av.fail|exact av.ret (fD.aD _ _ _)|exact av.ret (fD.put _ _ _)|exact av.aA (by assumption)|refine av.bif ?_|refine av.need ?_|refine av.look fun _=>?_|refine av.node ?_ ?_|refine av.bind fun _ _=>?_|split))
   ·exact av.fail
  ·rename_i f hf;split
   ·rename_i g caps hop;refine av.bif ?_;have heq:ge=some g:=by rw[←hge];simp[jv,ho,hf,hop]
    unfold mV;split
    ·rename_i e he;have key:cls cx ge o=2:=by simp[cls,ho,hf,heq,jQ he]
     have h1:cls cx ge o≠0:=by rw[key];simp
     have h2:cls cx ge o≠1:=by rw[key];simp
     exact fun y hy=>Bt (hn h1) (hp h1 h2) hy
    ·rename_i e A r s he;have key:cls cx ge o=2:=by simp[cls,ho,hf,heq,jQ he]
     have h1:cls cx ge o≠0:=by rw[key];simp
     have h2:cls cx ge o≠1:=by rw[key];simp
     exact fun y hy=>EW (hp h1 h2) hy
    ·rename_i g' he;have key:cls cx ge o=2:=by simp[cls,ho,hf,heq,jQ he]
     have h1:cls cx ge o≠0:=by rw[key];simp
     exact fun y hy=>Bu (hn h1) hy
    rename_i UF UG UH;unfold o7;split
    ·rename_i fH dc;split
     ·split
      ·exact av.look fun _=>av.ret (fD.aD _ _ _)
      ·exact av.fail
     ·rename_i hfl;have key:cls cx ge o=2:=by
       unfold cls;simp only[ho,hf,heq];split
       ·rfl
       ·rfl
       ·rfl
       ·simp[dc,hfl]
      have h1:cls cx ge o≠0:=by rw[key];simp
      have h2:cls cx ge o≠1:=by rw[key];simp
      split
      ·rename_i hx;exact av.look fun _=>av.ret ((r5 hx (hp h1 h2)).1.trans (fD.aD _ _ _))
      ·exact av.fail
    ·rename_i dc;split
     ·rename_i s Dn;unfold sL;split
      ·exact absurd (by simp[cls,ho,hf,heq,dc,Dn]) h3
      ·exact absurd (by simp[cls,ho,hf,heq,dc,Dn]) h3
      ·exact av.fail
     ·rename_i Dn;split
      ·rename_i k hk;have key:cls cx ge o=2:=by simp[cls,ho,hf,heq,dc,Dn,hk]
       have h1:cls cx ge o≠0:=by rw[key];simp
       have h2:cls cx ge o≠1:=by rw[key];simp
       split
       ·rename_i x u N M hx;exact av.bif (av.look fun y=>av.ret ((EY hx (hp h1 h2)).trans (fD.aD _ _ _)))
       ·exact fun y hy=>by cases hy
      ·rename_i hk;exact absurd (by simp[cls,ho,hf,heq,dc,Dn,hk]) h3
   ·exact av.fail
  ·rename_i r name hf;have key:cls cx ge o=2:=by simp[cls,ho,hf]
   have h1:cls cx ge o≠0:=by rw[key];simp
   have h2:cls cx ge o≠1:=by rw[key];simp
   unfold kY;split
   ·split
    ·rename_i hx;exact av.look fun _=>av.ret ((r5 hx (hp h1 h2)).1.trans (fD.aD _ _ _))
    ·exact av.fail
   ·exact av.fail
 case h_23 u x ho =>
  have key:cls cx ge o=2:=by simp[cls,ho]
  have h1:cls cx ge o≠0:=by rw[key];simp
  have h2:cls cx ge o≠1:=by rw[key];simp
  unfold kX;split
  ·split
   ·split
    ·rename_i hx;exact av.ret ((p6 hx (hp h1 h2)).1.trans (fD.aD _ _ _))
    ·exact av.fail
   ·exact av.fail
  ·exact av.fail
 case h_24=>exact av.fail
end
end Go.Ge
namespace Go.Ge
open RowKit
def Le(σ1 σ2:St):Prop:=∀b bx,σ1.mem b=some bx→σ2.mem b=some bx
structure Rel (σ1 σ2 jw jo:St):Prop where
 s1:jw.slots=σ1.slots
 s2:jo.slots=σ2.slots
 m:∀b,jo.mem b=match jw.mem b with|some x=>some x|none=>σ2.mem b
 nv:∀b,jw.mem b=none→σ1.mem b=none
section
variable {σ1 σ2 jw jo OX Qm:St}
theorem Rel.refl(h:Le σ1 σ2):Rel σ1 σ2 σ1 σ2 where
 s1:=rfl
 s2:=rfl
 m:=fun b=>by
  cases hb:σ1.mem b with
  | none=>rfl
  | some x=>exact h b x hb
 nv:=fun _ h=>h
theorem Rel.le(h:Rel σ1 σ2 jw jo):Le jw jo:=fun b bx hb=>by rw[h.m,hb]
theorem Rel.trans(h:Rel σ1 σ2 jw jo)(k:Rel jw jo OX Qm):Rel σ1 σ2 OX Qm where
 s1:=k.s1.trans h.s1
 s2:=k.s2.trans h.s2
 m:=fun b=>by
  rw[k.m b];cases hb:OX.mem b with
  | some x=>rfl
  | none=>simp only;rw[h.m b,k.nv b hb]
 nv:=fun b hb=>h.nv b (k.nv b hb)
theorem Rel.bJ(hle:Le σ1 σ2){b:Nat}{bx:aY}:Rel σ1 σ2 (σ1.bJ b bx) (σ2.bJ b bx) where
 s1:=rfl
 s2:=rfl
 m:=fun c=>by
  by_cases e:c=b
  ·subst e;simp[St.bJ]
  ·rw[nS,nS,aB _ e,aB _ e];exact(Rel.refl hle).m c
 nv:=fun c hc=>by
  by_cases e:c=b
  ·subst e;simp[St.bJ] at hc
  ·rw[nS,aB _ e] at hc;exact hc
theorem sR{σ τ:St}(h:τ.slots=σ.slots)(x:Operand):bN τ x=bN σ x:=by
 cases x<;>simp[bN,h]
theorem sS(h:Le σ1 σ2){e:Ty}{v:ay}{l:List e.den}(hl:eK e σ1 v=some l):eK e σ2 v=some l:=by
 unfold eK at hl⊢;cases v with
 | whole b aj =>
   simp only at hl⊢;cases hb:σ1.mem b with
   | none=>rw[hb] at hl;cases hl
   | some bx=>rw[hb] at hl;rw[h b bx hb];exact hl
 | part b aj lo n =>
   simp only at hl⊢;cases hb:σ1.mem b with
   | none=>rw[hb] at hl;cases hl
   | some bx=>rw[hb] at hl;rw[h b bx hb];exact hl
 | data u y=>cases u<;>exact hl
 | _=>exact hl
theorem H9(h:Le σ1 σ2):∀{t:Ty} {v:ay} {x:t.den},kR σ1 t v=some x→kR σ2 t v=some x:=by
 intro t;induction t with
 | slice e ih=>intro v x hl;exact sS h hl
 | pair a b gy iu =>
   intro v x hl;cases v with
   | mix p q =>
     obtain⟨y,z,h1,h2,rfl⟩:=vl hl;exact B9 (gy h1) (iu h2)
   | data u y=>exact hl
   | _=>cases hl
 | alt u a r gy ihr =>
   intro v x hl;cases v with
   | lV=>exact(jO hl).2.1 _
   | _=>exact hl
 | _=>intro v x hl;cases v<;>exact hl
theorem kr(h:Le σ1 σ2){b aj:Nat}(hl:live σ1 b aj=true):live σ2 b aj=true:=by
 unfold live at hl⊢;cases hb:σ1.mem b with
 | none=>rw[hb] at hl;cases hl
 | some bx=>rw[hb] at hl;rw[h b bx hb];exact hl
theorem Lu(h:Le σ1 σ2){v:ay}{n:Int}(hl:lenOf σ1 v=some n):lenOf σ2 v=some n:=by
 unfold lenOf at hl⊢;cases v with
 | whole b aj =>
   simp only at hl⊢;cases hb:σ1.mem b with
   | none=>rw[hb] at hl;cases hl
   | some bx=>rw[hb] at hl;rw[h b bx hb];exact hl
 | part b aj lo n' =>
   simp only at hl⊢;cases hv:live σ1 b aj with
   | false=>rw[hv] at hl;cases hl
   | true=>rw[hv] at hl;rw[kr h hv];exact hl
 | data u y=>cases u<;>exact hl
 | _=>exact hl
theorem Ji(h:Le σ1 σ2){e:Ty}{v:ay}{l:List e.den}(hl:nK e σ1 v=some l):nK e σ2 v=some l:=by
 unfold nK at hl⊢;split at hl
 ·exact hl
 ·exact sS h hl
theorem Ag(h:Le σ1 σ2){b aj:Nat}{r:Ty×Int}(hl:qq σ1 b aj=some r):qq σ2 b aj=some r:=by
 unfold qq at hl⊢;cases hb:σ1.mem b with
 | none=>rw[hb] at hl;cases hl
 | some bx=>rw[hb] at hl;rw[h b bx hb];exact hl
theorem Cl(h:Le σ1 σ2){b:Nat}(hf:freeze σ1 b=some jw):∃jo,freeze σ2 b=some jo∧Rel σ1 σ2 jw jo:=by
 unfold freeze at hf⊢;cases hb:σ1.mem b with
 | none=>rw[hb] at hf;cases hf
 | some bx =>
   rw[hb] at hf;rw[h b bx hb];simp only at hf⊢;cases hro:bx.ro with
   | true =>
     simp only[hro,jk,jU] at hf⊢;subst hf;exact⟨_,rfl,Rel.refl h⟩
   | false =>
     cases hlk:bx.lk with
     | true=>simp[hro,hlk] at hf
     | false =>
       simp only[hro,hlk,gj,jU] at hf⊢;subst hf;exact⟨_,rfl,Rel.bJ h⟩
theorem GH:∀{v:ay} {σ1 σ2 jw:St},Le σ1 σ2→eT σ1 v=some jw→∃jo,eT σ2 v=some jo∧Rel σ1 σ2 jw jo:=by
 intro v;induction v with
 | mix p q pY pg =>
   intro σ1 σ2 jw h hf;obtain⟨OX,h1,h2⟩:=oD hf;obtain⟨Qm,k1,k2⟩:=pY h h1;obtain⟨jo,k3,k4⟩:=pg k2.le h2;exact⟨jo,by simp only[eT,k1,k3],k2.trans k4⟩
 | whole b aj=>intro σ1 σ2 jw h hf;exact Cl h hf
 | part b aj lo n=>intro σ1 σ2 jw h hf;exact Cl h hf
 | _=>intro σ1 σ2 jw h hf;obtain rfl:=ax hf;exact⟨_,rfl,Rel.refl h⟩
theorem sU(h:Le σ1 σ2){t:Ty}{x:t.den}{v:ay}(hg:pP σ1 t v=some (x,jw)):∃jo,pP σ2 t v=some (x,jo)∧Rel σ1 σ2 jw jo:=by
 unfold pP at hg⊢;cases v with
 | data u y =>
   simp only at hg⊢;split at hg
   ·rename_i z hz;obtain⟨rfl,rfl⟩:=cr (ax hg);exact⟨_,rfl,Rel.refl h⟩
   ·cases hg
 | _ =>
   simp only at hg⊢;split at hg
   ·rename_i y OX hl hf;obtain⟨rfl,rfl⟩:=cr (ax hg);obtain⟨jo,k1,k2⟩:=GH h hf;rw[H9 h hl,k1];exact⟨jo,rfl,k2⟩
   ·cases hg
theorem uB:∀{A:Ty} {x:A.den} {vs:List ay} {σ1 σ2 jw:St},Le σ1 σ2→gM σ1 A vs=some (x,jw)→∃jo,gM σ2 A vs=some (x,jo)∧Rel σ1 σ2 jw jo:=by
 intro A;induction A with
 | pair t r F3 ihr =>
   intro x vs σ1 σ2 jw h hl;cases vs with
   | nil=>cases hl
   | cons v vs =>
     simp only[gM] at hl⊢;split at hl
     ·rename_i p OX hp;obtain⟨Qm,k1,k2⟩:=sU h hp;split at hl
      ·rename_i q UI hq;obtain⟨rfl,rfl⟩:=cr (ax hl);obtain⟨jo,k3,k4⟩:=ihr k2.le hq;exact⟨jo,by simp only[k1,k3],k2.trans k4⟩
      ·cases hl
     ·cases hl
 | unit =>
   intro x vs σ1 σ2 jw h hl;cases vs with
   | nil=>obtain⟨rfl,rfl⟩:=cr (ax hl);exact⟨_,rfl,Rel.refl h⟩
   | cons v vs=>cases hl
 | _=>intro x vs σ1 σ2 jw h hl;cases vs<;>cases hl
theorem BA{t:Ty}:∀{parts:List (Nat×Operand)} {x x':t.den} {σ1 σ2 jw:St},Le σ1 σ2→(∀o∈parts.map (·.2),bN σ1 o=bN σ2 o)→eL σ1 t x parts=some (x',jw) →
  ∃jo,eL σ2 t x parts=some (x',jo)∧Rel σ1 σ2 jw jo:=by
 intro parts;induction parts with
 | nil=>intro x x' σ1 σ2 jw h ho hl;obtain⟨rfl,rfl⟩:=cr (ax hl);exact⟨_,rfl,Rel.refl h⟩
 | cons p r ih =>
   obtain⟨k,o⟩:=p;intro x x' σ1 σ2 jw h ho hl;have h0:bN σ1 o=bN σ2 o:=ho o (by simp);simp only[eL] at hl⊢;split at hl
   ·rename_i u hu;split at hl
    ·rename_i y OX hg;rw[h0] at hg;obtain⟨Qm,k1,k2⟩:=sU h hg;split at hl
     ·rename_i z hz;obtain⟨jo,k3,k4⟩:=ih k2.le (fun o' ho'=>by rw[sR k2.s1,sR k2.s2];exact ho o' (by simp at ho'⊢;exact .inr ho')) hl;exact⟨jo,by simp only[k1,hz,k3],k2.trans k4⟩
     ·cases hl
    ·cases hl
   ·cases hl
theorem vG{e:Ty}:∀{parts:List (Nat×Operand)} {l l':List e.den} {σ1 σ2 jw:St},Le σ1 σ2→(∀o∈parts.map (·.2),bN σ1 o=bN σ2 o)→eF σ1 e l parts=some (l',jw) →
  ∃jo,eF σ2 e l parts=some (l',jo)∧Rel σ1 σ2 jw jo:=by
 intro parts;induction parts with
 | nil=>intro x x' σ1 σ2 jw h ho hl;obtain⟨rfl,rfl⟩:=cr (ax hl);exact⟨_,rfl,Rel.refl h⟩
 | cons p r ih =>
   obtain⟨k,o⟩:=p;intro l l' σ1 σ2 jw h ho hl;have h0:bN σ1 o=bN σ2 o:=ho o (by simp);simp only[eF] at hl⊢;split at hl
   ·rename_i y OX hg;rw[h0] at hg;obtain⟨Qm,k1,k2⟩:=sU h hg;cases hlt:Nat.blt k l.length with
    | false=>rw[hlt] at hl;cases hl
    | true =>
      rw[hlt] at hl;obtain⟨jo,k3,k4⟩:=ih k2.le (fun o' ho'=>by rw[sR k2.s1,sR k2.s2];exact ho o' (by simp at ho'⊢;exact .inr ho')) hl;exact⟨jo,by simp only[k1,jk,k3],k2.trans k4⟩
   ·cases hl
def lift(σ2:St)(d:Option Nat)(y:St):St :=
 { slots:=match d with|some d=>fun t=>bif Nat.beq t d then y.slots d else σ2.slots t|none=>σ2.slots
   mem:=fun b=>match y.mem b with|some x=>some x|none=>σ2.mem b }
theorem Jj(R:Rel σ1 σ2 jw jo)(d:Option Nat)(v:ay):lift σ2 d (jw.aD d v)=jo.aD d v:=by
 have hm:(fun b=>match jw.mem b with|some x=>some x|none=>σ2.mem b)=jo.mem:=funext fun b=>(R.m b).symm;cases d with
 | none=>simp only[lift,St.aD,hm,←R.s2]
 | some d =>
   simp only[lift,St.aD,St.put,hm,←R.s2]
   congr 1
   funext t;cases hb:Nat.beq t d with
   | true=>simp
   | false=>simp
def LT(σ2:St)(d:Option Nat)(T1 T2:Tree St):Prop:=∀y,T1.run=some y→T2.run=some (lift σ2 d y)
variable {d:Option Nat}
theorem LT.fail{T:Tree St}:LT σ2 d .fail T:=fun y h=>by cases h
theorem LT.ret(R:Rel σ1 σ2 jw jo){v:ay}:LT σ2 d (.ret (jw.aD d v)) (.ret (jo.aD d v)):=fun y h=>by
 obtain rfl:=ax h;rw[Jj R];rfl
theorem LT.GI(R:Rel σ1 σ2 jw jo){k:Nat}{v:ay}:LT σ2 (some k) (.ret (jw.put k v)) (.ret (jo.put k v)):=LT.ret (d:=some k) R
theorem LT.store(R:Rel σ1 σ2 jw jo):LT σ2 none (.ret jw) (.ret jo):=LT.ret (d:=none) (v:=.undef) R
theorem LT.bif{c:Bool}{t u:Tree St}(h:LT σ2 d t u):LT σ2 d (bif c then t else .fail) (bif c then u else .fail):=by cases c<;>first|exact LT.fail|exact h
theorem LT.EZ{c c':Bool}{t u:Tree St}(hc:c=true→c'=true)(h:LT σ2 d t u):LT σ2 d (bif c then t else .fail) (bif c' then u else .fail):=by
 cases c with
 | false=>exact LT.fail
 | true=>rw[hc rfl];exact h
theorem LT.need{c:Bool}{t u:Tree St}(h:LT σ2 d t u):LT σ2 d (.need c t) (.need c u):=fun y hy=>by
 obtain⟨rfl,h2⟩:=bK hy;exact h y h2
theorem LT.look{T:Type}{o:Option T}{k k':T→Tree St}(h:∀x,LT σ2 d (k x) (k' x)):LT σ2 d (.look o k) (.look o k'):=fun y hy=>by
 obtain⟨x,rfl,h2⟩:=bE hy;exact h x y h2
theorem LT.node{c:Bool}{t e t' e':Tree St}(h:LT σ2 d t t')(k:LT σ2 d e e'):LT σ2 d (.node c t e) (.node c t' e'):=fun y hy=>by
 have:=eI hy;cases c with
 | true=>exact h y this
 | false=>exact k y this
theorem LT.bind{α:Type}{t:Tree α}{f g:α→Tree St}(h:∀x,t.run=some x→LT σ2 d (f x) (g x)):LT σ2 d (t.bind f) (t.bind g):=fun y hy=>by
 obtain⟨x,h1,h2⟩:=bind_some hy;rw[Tree.run_bind,h1];exact h x h1 y h2
theorem LT.aA(hle:Le σ1 σ2){k:Nat}{b:Nat}(hb:σ1.mem b=σ2.mem b){val:ay}{tid:TypeId}{buf:Bool}{v:Nat→ay} :
  LT σ2 (some k) (σ1.aA b val tid buf fun aj σ=>.ret (σ.put k (v aj))) (σ2.aA b val tid buf fun aj σ=>.ret (σ.put k (v aj))):=by
 unfold St.aA;rw[←hb];cases hq:σ1.mem b with
 | none=>exact LT.GI (Rel.bJ hle)
 | some bx =>
   simp only;cases bx.lk with
   | true=>exact LT.fail
   | false=>exact LT.GI (Rel.bJ hle)
theorem LT.mem(hle:Le σ1 σ2){b:Nat}{f g:Option aY→Tree St}(h0:f none=.fail)(h:∀bx,σ1.mem b=some bx→LT σ2 d (f (some bx)) (g (some bx))):LT σ2 d (f (σ1.mem b)) (g (σ2.mem b)):=by
 cases hb:σ1.mem b with
 | none=>rw[h0];exact LT.fail
 | some bx=>rw[hle b bx hb];exact h bx hb
end
end Go.Ge
