import Derived.Test.YtgklgliokhbcnaaGreatDoorPlH
set_option linter.unusedSectionVars false
set_option linter.unusedVariables false
set_option linter.unusedSimpArgs false
set_option linter.defProp false
noncomputable section
open Option renaming some->aa,none->af
open Sum renaming inl->az,inr->aA
namespace Go.Ge
variable [Lp]
def IF s (image:Tx) (given:List Tx) (a:Tx) d (h:qs s) (l:given.length<=4294967296) :
  sR (s,image,given,a,d,())=aa (crB s image given a d):=by
 have v:=h.bl;unfold sR crB;have m:aL 64 (@len UInt8 a)=decide (64<a.length):=by unfold len;apply gm.2;omega
 rw[vv given l,ab,m];by_cases e:eU given=0
 rotate_left
 .rw[aQ<|.inl e,ar e];rfl
 by_cases i:64<a.length
 .rw[aQ<|.inr i,au e,cU i];rfl
 rw[aK<|by rintro(q|q);exact q e;exact i q,au e,cd i,aW,aE,dq];have n:(ak (nt<|decide<|image=[]) (ae (nf (s,image,())) λt=>aa ((t.2.1,()),(([]:Tx),given,t.1,([]:Tx),a,([]:List Item),()),()))<|some ((0,()),(([]),given,([]),([]),a,([]),()),())) =
   aa (((if image=[] then 0 else(aS (yp s) image).2.1),()),(([]),given,Fm s image,([]),a,([]),()),()):=by
  unfold Fm;by_cases q:image=[]
  .rw[cU q,aW,ag,aQ q,aQ q]
  .rw[cd q,aE,ai,BA s image h,ab,aK q,aK q]
 rw[show _=_ from n,ab];have c:(image≠[]/\(aS (yp s) image).2.1≠0)↔¬((if image=[] then 0 else(aS (yp s) image).2.1)=0):=by
  by_cases q:image=[]
  .simp
  .simp
 by_cases c3:(if image=[] then 0 else(aS (yp s) image).2.1)=0
 rotate_left
 .rw[aQ<|c.2 c3];simp only[ ag,ab,ar c3];rw[(λq=>aK q.1)<|c.2 c3];rfl
 rw[aK<|λq=>c.1 q c3,au c3];simp only[ai];rw[BD s h,ab,tj _ [] given (DH h) l,ab,ab];by_cases j:pU (Dy s) [] given=0
 rotate_left
 .rw[aQ j];simp only[ ag,ab,ar j];rfl
 rw[aK<|λq=>q j,au j];simp only[ai,ab];rw[show gM IntKind.i64 d 16777215=Wr d from rfl,Ih,ab,ab];by_cases f:(dB (Dy s)<|Wr d).2.1=0
 rotate_left
 .rw[aQ f,ar f];rfl
 rw[aK<|λq=>q f,au f];simp only[aW,ag];obtain⟨x,o⟩:=yf s _ h;rw[o,ab];have g:((((((ak (decide<|image=[]) (((),(([]),([]),([]),([]),([]),()),()):aj×lD×aj) ((),(vZ (·.1) s.2.1 PG<|Fm s image,()))).2).1).2).2).1)=(if image=[] then [] else BE s (Fm s image)):=by
  by_cases q:image=[]
  .rw[cU q,ai,aQ q]
  .rw[cd q,ag,aK q];rw[Rb]
 rw[show _=_ from g];rw[show gM IntKind.i64 _ 16777215=Eu d from rfl,Kt s _ _ h,ab];have b:=Q7 s (if image=[] then [] else BE s (Fm s image)) [] (Eu d);generalize crG s _ [] _=r at b;by_cases k:r.2.1.1=0
 rotate_left
 .rw[aQ k,ar k];rfl
 rw[aK<|λq=>q k,au k,aW,ag];obtain⟨_,_,p⟩:=CD f;rw[Et r.1 _ (by rw[b];omega) l aT<|λy u=>by rw[b] at u;exact p _ (aae u),ab,b]
def IG{s}(h:qs s)(a:Tx){given}(g:pL given)(i:Tx) d:sW (s,a,given,i,d,())=aa (crI s a given i d):=by
 have m:=h.il;have n:=Te h;unfold sW crI;rw[oI given g.small (λx b=>by have:=g.2 x b;omega),ab];dsimp only;rw[show aL 64 _=decide (64<i.length) by unfold len;apply gm.2;omega];by_cases c:eU given≠0\/64<i.length
 .rw[aQ c];by_cases q:eU given=0
  .rw[au q,cU (c.resolve_left λk=>k q)];rfl
  .rw[ar q];rfl
 rw[aK c,au (BK λk=>c (.inl k)),cd λk=>c (.inr k)];by_cases e:a≠[]/\(aS (ix s) a).2.1≠0
 .rw[aQ e,aY e.1,fE s a h,ab,ar e.2];rfl
 rw[aK e];have j:(ak (nt<|bt a []) (ae (eR (s,a,())) λl=>ak (nt<|aG l.2.1 0) (ae (iw (l.2.1,())) λo=>aa (1,(([]),()),o.1,s,())) (aa (0,(l.1,()),zA,zS,())))
   (aa (0,(([]),()),zA,zS,())))=aa (0,((if a=[] then [] else(aS (ix s) a).1),()),zA,zS,()):=by
  by_cases q:a=[]
  .rw[cc q,aW,ag,aQ q]
  .rw[aY q,fE s a h,ab,au (BK λk=>e ⟨q,k⟩),aK q];rfl
 refine ob j ?_;generalize (if a=[] then [] else(aS _ a).1)=p;rw[ BG s h,ab];rw[wQ _ [] given (DA h) g.small (λx b=>by have:=g.2 x b;omega),ab];by_cases c3:pU (yp s) [] given=0
 rotate_left
 .rw[aQ c3,ar c3];rfl
 rw[aK<|λq=>q c3,au c3,ab];dsimp only;rw[A5 _ _ ah,ab];by_cases f:(dB (yp s) d).2.1=0
 rotate_left
 .rw[aQ f,ar f];rfl
 obtain⟨_,_,r⟩:=CD f;rw[aK<|λq=>q f,au f,IA s _ ah];rw[Ai _ λx b=>r _ (aaa b)];rfl
def IH{s}(h:qs s)(a:Tx){given}(j:pL given)(l:Tx) d:s6 (s,a,given,l,d,())=aa (crB s a given l d):=by
 have t:=h.il;have u:=h.bl;have v:=Lc h;unfold s6 crB;rw[oI given j.small (λx e=>by have:=j.2 x e;omega),ab];dsimp only;rw[show aL 64 _=decide (64<l.length) by unfold len;apply gm.2;omega];by_cases f:eU given≠0\/64<l.length
 .rw[aQ f];by_cases q:eU given=0
  .rw[au q,cU (f.resolve_left λk=>k q)];rfl
  .rw[ar q];rfl
 rw[aK f,au (BK λk=>f (.inl k)),cd λk=>f (.inr k)];by_cases g:a≠[]/\(aS (yp s) a).2.1≠0
 .rw[aQ g,aY g.1,ye s a h,ab,ar g.2];rfl
 rw[aK g];have o:(ak (nt<|bt a []) (ae (sX (s,a,())) λm=>ak (nt<|aG m.2.1 0) (ae (gl (m.2.1,())) λp=>aa (1,(([]),([]),()),p.1,s,()))
   (ae (oG (s,m.1,())) λp=>aa (0,(m.1,p.1.2.2.1,()),zA,zS,())))
   (aa (0,(([]),([]),()),zA,zS,())))=aa (0,(Fm s a,(if a=[] then [] else BE s (Fm s a)),()),zA,zS,()):=by
  unfold Fm;by_cases q:a=[]
  .rw[cc q,aW,ag,aQ q,aQ q]
  .obtain⟨b,y⟩:=Iy s (aS _ a).1 ah;rw[aY q,ye s a h,ab,au (BK λk=>g ⟨q,k⟩),aK q,aK q,y,Rb];rfl
 refine ob o ?_;generalize (if a=[] then [] else BE s _)=top;rw[cO,ai,BH s h,ab];rw[wQ _ [] given (DH h) j.small (λx e=>by have:=j.2 x e;omega),ab];by_cases c3:pU (Dy s) [] given=0
 rotate_left
 .rw[aQ c3,ar c3];rfl
 rw[aK<|λq=>q c3,au c3,aW,ag,ab];dsimp only;rw[show gM IntKind.i64 d 16777215=Wr d from rfl,show gM IntKind.i64 _ 16777215=Eu d from rfl,A5 _ _ ah,ab];by_cases i:(dB (Dy s)<|Wr d).2.1=0
 rotate_left
 .rw[aQ i,ar i];rfl
 obtain⟨_,_,z⟩:=CD i;have c:=Q7 s top [] (Eu d);rw[aK<|λq=>q i,au i,aW,ag,Am h top G9 [] _ aD,aaf,ab];generalize crG s top [] _=r at c;by_cases n:r.2.1.1=0
 rotate_left
 .rw[aQ n,ar n];rfl
 rw[aK<|λq=>q n,au n,aW,ag,IB r.1 _ (by rw[c];omega),ab];rw[c,Ai _ λx e=>z _ (aae e)]
def yX{α}(a:α->Tx){l} d {id} (h:∃x∈l,a x=id):a (vZ a l d id)=id/\vZ a l d id∈l:=by
 unfold vZ;cases b:l.find? λx=>decide (a x=id) with
 | none =>
   obtain⟨x,c,e⟩:=h;have:=TI.1 b x c;simp[e] at this
 | some y=>exact⟨by simpa using Ze b,TL b⟩
def aim(a:List AX)(id:Tx):Option (List Item)->List AX
 | none=>a
 | some l=>p5 (·.1) (Is (·.1) a id) (id,((vZ (·.1) a F4 id).2.1,((vZ (·.1) a F4 id).2.2.1,((vZ (·.1) a F4 id).2.2.2.1,((vZ (·.1) a F4 id).2.2.2.2.1,l,())))))
def ain(a:List lD)(id:Tx):Option (List Item)->List lD
 | none=>a
 | some l=>p5 (·.1) (Is (·.1) a id) (id,((vZ (·.1) a PG id).2.1,((vZ (·.1) a PG id).2.2.1,((vZ (·.1) a PG id).2.2.2.1,l,()))))
def itA(s:aU)(c:vE):aU×tD×aj :=
 if ¬c.2.1∈lH c then(s,jq 1,()) else
 if(aS (xd s c.2.1) c.2.2.1).2.1≠0 then(s,jq (aS (xd s c.2.1) c.2.2.1).2.1,()) else
 if c.2.1=1 then((aim s.1 (aS (xd s c.2.1) c.2.2.1).1 (itF (vZ (·.1) s.1 F4 (aS (xd s c.2.1) c.2.2.1).1).2.2.2.2.2.1 c (aS (xd s c.2.1) c.2.2.1).1).1,s.2),((itF (vZ (·.1) s.1 F4 (aS (xd s c.2.1) c.2.2.1).1).2.2.2.2.2.1 c (aS (xd s c.2.1) c.2.2.1).1).2,()))
 else((s.1,(ain s.2.1 (aS (xd s c.2.1) c.2.2.1).1 (itF (vZ (·.1) s.2.1 PG (aS (xd s c.2.1) c.2.2.1).1).2.2.2.2.1 c (aS (xd s c.2.1) c.2.2.1).1).1,s.2.2)),((itF (vZ (·.1) s.2.1 PG (aS (xd s c.2.1) c.2.2.1).1).2.2.2.2.1 c (aS (xd s c.2.1) c.2.2.1).1).2,()))
def afC{s}(h:qs s)(g:∀x∈s.1,vz x.2.2.2.2.2.1)(c:vE)(o:c.1=9\/c.1=10)(n:c.2.2.2.2.2.1.length<=1048576):AO (s,c,())=aa (itA s c):=by
 have p:=h.bl;have r:=h.il;unfold itA;refine ob (Q6 c) (ob (Bj (lH c) c.2.1 (by have:=NR c;omega)) ?_);dsimp only;by_cases m:c.2.1∈lH c
 rotate_left
 .rw[cd m,aQ m];rfl
 rw[cU m,aK λq=>q m];refine ob (JC h _) (ob (mR (xd s c.2.1) c.2.2.1 (DL h _) (by have:=DK h c.2.1;omega)) ?_);by_cases i:(aS (xd s c.2.1) c.2.2.1).2.1=0
 rotate_left
 .rw[ar i,aQ i];rfl
 rw[au i,aK λq=>q i];have b:=Aj i;generalize (aS _ c.2.2.1).1=id at b;rcases NZ o m with k|k
 .obtain⟨j,d⟩:=yX (λz=>z.1) F4 (show ∃x∈s.1,x.1=id by
   rcases b with ⟨_,q⟩|⟨q,_⟩|⟨q,_⟩
   .exact q
   .omega
   .omega)
  rw[aQ k,au k];obtain⟨t,f⟩:=zt s id h g;refine ob f ?_;unfold aim;generalize vZ _ s.1 F4 id=x at j d;have u:=(g x d).1;unfold itF;by_cases a:c.1=10
  .rw[aQ a,au a,ai];refine ob (Js _ _ ym) ?_;dsimp only;by_cases e:(Fc x.2.2.2.2.2.1 c.2.2.2.2.2.2.1).2=0
   .rw[aK<|λq=>q e,au e,aW,ag]
   .rw[aQ e,ar e,aE,ai];rfl
  .rw[aK a,ar a,ag];refine ob (Jt _ _ _ ym n) ?_;dsimp only;by_cases e:(nC x.2.2.2.2.2.1 c.2.2.2.2.2.2.1 c.2.2.2.2.2.1).2=0
   .rw[aK<|λq=>q e,au e,aW,ag];have l:=NY x.2.2.2.2.2.1 c.2.2.2.2.2.2.1 c.2.2.2.2.2.1;refine ob (Ev s _ ah (by dsimp only;exact(h.bn x d).small) ym) ?_;dsimp only;rw[j];rfl
   .rw[aQ e,ar e,aE,ai];rfl
 .obtain⟨j,d⟩:=yX _ PG (show ∃x∈s.2.1,x.1=id by
   rcases b with ⟨q,_⟩|⟨_,q⟩|⟨q,_⟩
   .omega
   .exact q
   .omega)
  rw[aK ah,ar ah];obtain⟨t,f⟩:=yf s id h;refine ob f ?_;unfold ain;generalize vZ _ s.2.1 PG id=x at j d;have u:=(h.it x d).1;unfold itF;by_cases a:c.1=10
  .rw[aQ a,au a];refine ob (Js _ _ ym) ?_;by_cases e:(Fc x.2.2.2.2.1 c.2.2.2.2.2.2.1).2=0
   .rw[aK<|λq=>q e,au e,aW,ag]
   .rw[aQ e,ar e,aE,ai];rfl
  .rw[aK a,ar a];refine ob (Jt _ _ _ ym n) ?_;by_cases e:(nC x.2.2.2.2.1 c.2.2.2.2.2.2.1 c.2.2.2.2.2.1).2=0
   .rw[aK<|λq=>q e,au e];have l:=NY x.2.2.2.2.1 c.2.2.2.2.2.2.1 c.2.2.2.2.2.1;refine ob (CZ s _ ah ((h.rZ x d).small) ym) ?_;rw[j];rfl
   .rw[aQ e,ar e];rfl
def Oa{s}(h:qs s)(j:∀x∈s.1,vz x.2.2.2.2.2.1){c}(l:c.1=9\/c.1=10)(i:zr c):wJ (s,c,())=aa (itA s c):=by
 have p:=h.bl;have r:=h.il;have n:lH c=PD c.2.1 [1,2]:=by unfold lH;rw[aK ah,aK ah,aK ah,aK ah,aQ l]
 unfold wJ itA;dsimp only;by_cases m:c.2.1∈lH c
 rotate_left
 .rw[n,N9] at m;simp at m;rw[aQ<|by rw[n,N9];simp;exact m,ar m.2,ar m.1];rfl
 have o:=NZ l m;have t:ak (nt<|aG c.2.1 2) (nt<|aG c.2.1 1) false=false:=by
  rcases o with q|q
  .rw[au q];cases nt _<;>rfl
  .rw[au q];rfl
 rw[aK<|λq=>q m,t,BI h,ab];rw[oN _ _ (DL h _) (by have:=DK h c.2.1;omega),ab];by_cases f:(aS (xd s c.2.1) c.2.2.1).2.1=0
 rotate_left
 .rw[aQ f,ar f];rfl
 rw[aK<|λq=>q f,au f];have d:=Aj f;generalize (aS _ c.2.2.1).1=id at d;obtain⟨y,u⟩:=Iy s id ah;obtain⟨A,v⟩:=Iz s id ah;rw[u,ab,v,ab];rcases o with g|B
 .rw[au g,aQ g];simp only[ai];obtain⟨e,k⟩:=yX (λz=>z.1) F4 (show ∃x∈s.1,x.1=id by
   rcases d with ⟨_,q⟩|⟨q,_⟩|⟨q,_⟩
   .exact q
   .omega
   .omega)
  have b:=j _ k;unfold itF;by_cases a:c.1=10
  .rw[au a,ai,aQ a,CE _ _ (by have:=b.1;omega),ab];by_cases q:(Fc (vZ (λz=>z.1) s.1 F4 id).2.2.2.2.2.1 c.2.2.2.2.2.2.1).2=0
   .rw[au q,aK λz=>z q];rfl
   .rw[ar q,aQ q];rfl
  .rw[ar a,ag,aK a,CF _ _ _ (by have:=b.1;omega) (by have:=i.key;omega) (by have:=i.data;omega),ab];by_cases q:(nC (vZ (λz=>z.1) s.1 F4 id).2.2.2.2.2.1 c.2.2.2.2.2.2.1 c.2.2.2.2.2.1).2=0
   .rw[au q,aK (λz=>z q),aW,ag,IB s _ ah];rw[e];rfl
   .rw[ar q,aQ q];rfl
 .have g:¬c.2.1=1:=ah;rw[ar g,aK g];simp only[ag];obtain⟨e,k⟩:=yX (λz=>z.1) PG (show ∃x∈s.2.1,x.1=id by
   rcases d with ⟨q,_⟩|⟨_,q⟩|⟨q,_⟩
   .omega
   .exact q
   .omega)
  have b:=h.it _ k;unfold itF;by_cases a:c.1=10
  .rw[au a,aQ a,CE _ _ (by have:=b.1;omega),ab];by_cases q:(Fc (vZ (λz=>z.1) s.2.1 PG id).2.2.2.2.1 c.2.2.2.2.2.2.1).2=0
   .rw[au q,aK λz=>z q];rfl
   .rw[ar q,aQ q];rfl
  .rw[ar a,aK a,CF _ _ _ (by have:=b.1;omega) (by have:=i.key;omega) (by have:=i.data;omega),ab];by_cases q:(nC (vZ (λz=>z.1) s.2.1 PG id).2.2.2.2.1 c.2.2.2.2.2.2.1 c.2.2.2.2.2.1).2=0
   .rw[au q,aK (λz=>z q),IA s _ ah];rw[e];rfl
   .rw[ar q,aQ q];rfl
structure IdS (s:aU):Prop where
 idB:∀x∈s.1,x.1.length<=1048576
 idI:∀x∈s.2.1,x.1.length<=1048576
 idL:∀x∈s.2.2.1,x.1.length<=1048576
def aai{s}(h:qs s)(c:IdS s) k:∀x∈xd s k,x.1.length<=1048576/\pL x.2.1:=λx a=>by
 rcases Ix s k with ⟨_,e⟩|⟨_,e⟩|⟨_,e⟩|e
 .rw[e] at a;obtain⟨y,b,rfl⟩:=Tk a;exact⟨c.idB y b,h.bn y b⟩
 .rw[e] at a;obtain⟨y,b,rfl⟩:=aab a;exact⟨c.idI y b,h.rZ y b⟩
 .rw[e] at a;obtain⟨y,b,rfl⟩:=aac a;exact⟨c.idL y b,h.ln y b⟩
 .rw[e] at a;cases a
def ahD(l:List Tx)(a:l.length<=1000) k (b:k<=4000000) (h:∀x∈l,x.length<=k):kS (l,[32],())=aa (Lib.join l [32],()):=by
 have:=Fo k l h;have c:l.length*(k+1)<=1000*4000001:=adk a ah;show(EZ l [32]).map _=_
 unfold EZ
 grind
def Kw(l:List Nm)(p:l.length<=60)(k:∀x∈l,x.1.length<=1048576/\pL x.2.1):zj (l,())=aa (afw l,()):=by
 have a:∀x∈l,(Lib.join (x.1::x.2.1) [32]).length<=9437193:=λx b=>by
  have h:=k x b;have:=Fo 1048576 (x.1::x.2.1) (λy hy=>by
   rcases fh.1 hy with rfl|hy
   .grind
   .have:=h.2.2 y hy;omega)
  have n:=h.2.1
  grind
 have key:=hJ (f:=pE (l,())) l (λg i=>((i,()),((),(),()),g,())) (λx=>ax (Lib.join (x.1::x.2.1) [32]++[10])) _ ah (λi x b j d=>by
  have e:((l.take i).flatMap λx=>ax (Lib.join (x.1::x.2.1) [32]++[10])).length<=(l.take i).length*9437194:=DJ _ _ _ λc o=>by
   have:=a c (DQ o);rw[S8,iC];simp only[Rn];omega
  rw[dk] at e;have m:=k x (eG b);have Xi:=a x (eG b);have n:=m.2.1;unfold pE;rw[al j,ao b,ab,d,aJ cT,show @app Tx [x.1] x.2.1=x.1::x.2.1 from rfl,
   show kS _=_ from ahD _ cT 1048576 ah (λy hy=>by
    rcases fh.1 hy with rfl|hy
    .grind
    .have:=m.2.2 y hy;omega),ab]
  rw[aJ cT,show app _ [10]=Lib.join _ [32]++[10] from rfl,aJ (by rw[S8,iC];simp only[Rn];omega)];rfl) (by
  unfold pE;rw[aq];rfl)
 exact ob key rfl
def rnA(s:aU)(k:Int)(id:Tx)(g:List Tx):aU :=
 if k=1 then(p5 (·.1) (Is (·.1) s.1 id) (id,(g,(vZ (·.1) s.1 F4 id).2.2)),s.2) else if k=2 then(s.1,(p5 (·.1) (Is (·.1) s.2.1 id) (id,(g,(vZ (·.1) s.2.1 PG id).2.2)),s.2.2)) else(s.1,s.2.1,rnL s.2.2.1 id g,s.2.2.2)
def rcA(s:aU)(c:vE):aU×tD×aj :=
 if ¬c.2.1∈lH c then(s,jq 1,()) else
 if c.1=15 then(s,(0,[],0,afw<|xd s c.2.1,()),()) else
 if c.1=13/\eU c.2.2.2.2.1≠0 then(s,jq 1,()) else
 if rcE s c≠0 then(s,jq<|rcE s c,()) else
 if c.1=13 then(rnA s c.2.1 (aS (xd s c.2.1) c.2.2.1).1 c.2.2.2.2.1,Er (aS (xd s c.2.1) c.2.2.1).1,()) else(s,Er (aS (xd s c.2.1) c.2.2.1).1,())
def YO{s}(h:qs s)(g:IdS s)(c:vE)(r:c.1=13\/c.1=14\/c.1=15)(t:c.2.2.2.2.1.length<=1000)
  (j:∀id,(c.2.1=1/\∃x∈s.1,x.1=id)\/(c.2.1=2/\∃x∈s.2.1,x.1=id)\/(c.2.1=3/\∃x∈s.2.2.1,x.1=id)->gS (s,c.2.1,id,c.2.2.2.2.1,())=aa (rnA s c.2.1 id c.2.2.2.2.1,())) :
  xN (s,c,())=aa (rcA s c):=by
 unfold rcA;refine ob (JC h _) (ob (Q6 c)<|ob (Bj (lH c) c.2.1 (by have:=NR c;omega)) ?_);dsimp only;by_cases m:c.2.1∈lH c
 rotate_left
 .rw[cd m,aQ m];rfl
 rw[cU m,aK λq=>q m];by_cases a:c.1=15
 .rw[aQ a,au a];exact ob (Kw _ (DK h _)<|aai h g _) rfl
 rw[aK a,ar a];have i:=DL h c.2.1;have u:=DK h c.2.1;have k:(ak (aG c.1 13) (ae (gi (c.2.2.2.2.1,())) λl=>aa (nt<|aG l.1 0))<|some false)=aa (decide<|c.1=13/\eU c.2.2.2.2.1≠0):=by
  by_cases q:c.1=13
  .rw[au q,vv _ ah,ab];by_cases b:eU c.2.2.2.2.1=0
   .rw[au b,cd λz=>z.2 b];rfl
   .rw[ar b,cU ⟨q,b⟩];rfl
  .rw[ar q,ag,cd λz=>q z.1]
 refine ob k ?_;by_cases f:c.1=13/\eU c.2.2.2.2.1≠0
 .rw[cU f,aQ f];rfl
 rw[cd f,aK f];refine ob (mR _ c.2.2.1 i ah) ?_;have n:(ak (ak (aG (aS (xd s c.2.1) c.2.2.1).2.1 0) (aG c.1 13) false) (ae (hS (xd s c.2.1,(aS (xd s c.2.1) c.2.2.1).1,c.2.2.2.2.1,())) λo=>aa ((o.1,()),()))<|some (((aS (xd s c.2.1) c.2.2.1).2.1,()),()))=aa ((rcE s c,()),()):=by
  unfold rcE;by_cases q:(aS (xd s c.2.1) c.2.2.1).2.1=0
  .rw[au q,ai];by_cases b:c.1=13
   .rw[au b,ai,aQ ⟨q,b⟩,tj _ _ _ i ah,ab]
   .rw[ar b,ag,aK λz=>b z.2]
  .rw[ar q,ag,ag,aK λz=>q z.1]
 refine ob n ?_;by_cases e:rcE s c=0
 rotate_left
 .rw[aQ e];rw[ar e];rfl
 rw[aK λq=>q e];rw[au e];by_cases d:c.1=13
 .rw[aQ d,au d];have p:=BK λq=>by
   unfold rcE at e;rw[aK λz=>q z.1] at e;exact q e
  rw[j _<|Aj p];rfl
 .rw[aK d,ar d];rfl
def Ey{s}(h:qs s)(c:∀x∈s.1,vz x.2.2.2.2.2.1) k (g:List Tx) (n:g.length<=1000) id (hx:(k=1/\∃x∈s.1,x.1=id)\/(k=2/\∃x∈s.2.1,x.1=id)):gS (s,k,id,g,())=aa (rnA s k id g,()):=by
 have j:=h.bl;have l:=h.il;unfold gS rnA;dsimp only;rcases hx with ⟨f,hx⟩|⟨i,hx⟩
 .rw[aQ f,au f];obtain⟨d,e⟩:=yX (λz=>z.1) F4 hx;obtain⟨b,a⟩:=zt s id h c;refine ob a ?_;have m:=(c _ e).1;refine ob (Ev s _ ah ym ym) ?_;dsimp only;rw[d]
 .rw[aK ah,ar ah,aQ i,au i];obtain⟨d,e⟩:=yX (λz=>z.1) PG hx;obtain⟨b,a⟩:=yf s id h;refine ob a ?_;have m:=(h.it _ e).1;refine ob (CZ s _ ah ym ym) ?_;rw[d]
def Tr{s}(h:qs s) k (g:List Tx) (u:g.length<=1000) id (m:k=3) (hx:∃x∈s.2.2.1,x.1=id):gS (s,k,id,g,())=aa (rnA s k id g,()):=by
 have n:=h.ll;subst m;unfold gS rnA;dsimp only;rw[ar aD,ag,ar aD,ag,dh ah];rcases eu (f:=mi (s,_)) s.2.2.1 (λi=>((0,i,()),id,())) (λ_ y=>decide (y.1=id)) (λi _=>(1,(i,i,()),id,())) _ ah (λi y a d o=>by
  unfold mi;dsimp only;rw[al d,ai,aF ah dR,ai,ao a,ab,dq,da,o];by_cases q:y.1=id<;>simp[q]) (by unfold mi;rw[aq,ag]) with ⟨j,y,a,b,c,p⟩|⟨e,_⟩
 rotate_left
 .obtain⟨y,a,r⟩:=hx;obtain⟨i,d⟩:=bc.1 a;have:=e i y d;simp[r] at this
 have b:=fb b;have v:=av a;rw[p,ab];rw[show cl 1 0=false from rfl,ag,ab];dsimp only;rw[rX _ ah,ab,aF ah dR,ao a,ab,ab,ab];unfold rnL kh;rw[(CU a b c),(Al _ a b λi z l t=>xf (c i z l t)),b];rfl
def acr(a:Tx)(l:List Tx):Lib.join (a::l) [32]=a++l.flatMap λn=>32::n:=by
 rw[Lib.join_cons];rfl
def acs l:afw l=l.flatMap λx=>x.1++(x.2.1.flatMap λn=>32::n)++[10]:=by
 unfold afw;have:(l.flatMap λx=>ax (Lib.join (x.1::x.2.1) [32]++[10]))=ax (l.flatMap λx=>x.1++(x.2.1.flatMap λn=>32::n)++[10]):=by
  unfold ax;rw[List.map_flatMap];simp only[acr]
 rw[this,mQ]
def Ft{s}(h:qs s) id (g:List Tx) (hx:∃x∈s.2.2.1,x.1=id):gT (s,3,id,g,())=aa (rnA s 3 id g,()):=by
 have n:=h.ll;obtain⟨j,y,c,k,b,o⟩:∃(j:Nat) (y:cD),s.2.2.1[j]?=aa y/\y.1=id/\_/\Fj s.2.2.1 id=aa j:=by
  rcases Vn s.2.2.1 _ with ⟨j,y,c,m,b⟩|p
  .exact⟨j,y,c,fb m,λi x a hx=>xf (b i x a hx),CU c (fb m) b⟩
  .obtain⟨x,hx,e⟩:=hx;obtain⟨i,a⟩:=bc.1 hx;exact absurd e (xf<|p i x a)
 have d:∀i x,s.2.2.1[i]?=aa x->ak (bt x.1 id) (nt<|decide<|j<i) false=decide (i=j):=λi x a=>by
  rw[dq];rcases Lo i j with q|q|q
  .rw[cd<|b i x q a,cd (show ¬i=j by omega)];rfl
  .subst q;rw[c] at a;rw[<-aI a,cU k,cd (Nat.lt_irrefl i),cU rfl];rfl
  .rw[cU q,cd (show ¬i=j by omega)];cases decide (x.1=id)<;>rfl
 have hlen:(rnL s.2.2.1 id g).length=s.2.2.1.length:=aag _ _ _;have l:∀i x,s.2.2.1[i]?=aa x->(rnL s.2.2.1 id g)[i]?=aa (if i=j then(x.1,x.2.1,g,x.2.2.2) else x):=λi x a=>by
  unfold rnL;rw[o,(Al _ c k b),Option.getD_some,List.getElem?_set];by_cases q:i=j
  .subst q;rw[c] at a;rw[aQ rfl,aQ (av c),aQ rfl,<-aI a,k]
  .rw[aK<|λz=>q z.symm,aK q,a]
 have key:=cV (f:=mj (s,3,id,g,())) s.2.2.1.length
  (λi=>(((),decide _,i,()),(rnL s.2.2.1 id g).take i,())) (λi a=>by
   have hx:=fH a;have r:(rnL s.2.2.1 id g).take (i+1)=(rnL s.2.2.1 id g).take i++[if i=j then(s.2.2.1[i].1,s.2.2.1[i].2.1,g,s.2.2.1[i].2.2.2) else s.2.2.1[i]]:=by rw[yn,l i _ hx];rfl
   unfold mj;dsimp only;rw[al a,ao hx,ab,d i _ hx,aB ah,r];rw[(λz=>aJ cT)];by_cases q:i=j
   .subst q;rw[cU rfl,aQ rfl,cU (TW i)];rfl
   .rw[cd q,aK q];have e:decide (j<i+1)=decide (j<i):=gm.2 ah;rw[e];rfl) (by
   unfold mj;rw[aq,JK ah];rfl)
 unfold gT rnA;dsimp only;exact ob key rfl
def Hf{s}(h:qs s) k id (g:List Tx) (hx:(k=1/\∃x∈s.1,x.1=id)\/(k=2/\∃x∈s.2.1,x.1=id)\/(k=3/\∃x∈s.2.2.1,x.1=id)):gT (s,k,id,g,())=aa (rnA s k id g,()):=by
 have d:=h.bl;have e:=h.il;rcases hx with ⟨rfl,hx⟩|⟨rfl,hx⟩|⟨rfl,hx⟩
 .obtain⟨b,a⟩:=Iz s id ah;obtain⟨c,_⟩:=yX (λz=>z.1) F4 hx;unfold gT rnA;dsimp only;rw[ a,aQ rfl];refine ob (IB s _ ah) ?_;rw[c]
 .obtain⟨b,a⟩:=Iy s id ah;obtain⟨c,_⟩:=yX _ PG hx;unfold gT rnA;dsimp only;rw[ a,aK aD,aQ rfl];refine ob (IA s _ ah) ?_;rw[c]
 .exact Ft h id g hx
def Ob{x:Nm}(h:x.1.length<=1048576/\pL x.2.1):(x.1++(x.2.1.flatMap λn=>32::n)++[10]).length<=1060000:=by
 have b:(x.2.1.flatMap λn=>32::n).length<=x.2.1.length*1000:=DJ _ 1000 x.2.1 λn a=>by have:=h.2.2 n a;simp;omega
 have:=h.2.1;simp only[iC,iD,p6];omega
def Oc(l:List Nm)(t:l.length<=60)(m:∀x∈l,x.1.length<=1048576/\pL x.2.1):AU (l,())=aa (afw l,()):=by
 rw[acs];have key:=hJ (f:=qZ (l,())) l (λb i=>((b,i,()),())) _ _ ah (λi x e j d=>by
  have a:((l.take i).flatMap _).length<=(l.take i).length*1060000:=DJ _ _ _ λc p=>Ob (m c<|DQ p);rw[dk] at a;have g:=m x (eG e);have Xi:=Ob g;simp only[iC,iD,p6] at Xi;have u:=g.2.1;generalize v:(l.take i).flatMap _=O at a;have inner:=hJ (f:=qY (l,()) ((O,i,()),())) x.2.1 (λb k=>((O++x.1++b,k,()),())) _ _ ah (λk n h q r=>by
   have s:=g.2.2 n (eG h);have o:=DJ (λn=>32::n) 1000 (x.2.1.take k) λn h=>by have:=g.2.2 n (DQ h);simp;omega
   rw[dk] at o;unfold qY;generalize (x.2.1.take k).flatMap _=Q at o;rw[ao e,ab,al q,ab,ao h,ab,r,aJ cT,aJ (by simp only[gU,iC,iD,p6];omega),ai];simp only[gU,xg];rfl) (by
   unfold qY;rw[ao e,ab,aq];rfl)
  rw[tK] at inner;unfold qZ;dsimp only;rw[al j,ao e,ab,aJ ah,d,show app O x.1=O++x.1 from rfl,inner,ab];rw[aJ<|by simp only[iC,iD,p6];omega];simp only[gU,xg];rfl) (by
  unfold qZ;rw[aq];rfl)
 exact ob key rfl
def II{s}(h:qs s)(i:IdS s){c}(p:c.1=13\/c.1=14\/c.1=15)(r:zr c):s8 (s,c,())=aa (rcA s c):=by
 have f:=r.nms;have t:lH c=PD c.2.1 [1,2,3]:=by unfold lH;rw[aK ah,aK ah,aK ah,aK ah,aK ah,aQ p]
 have n:c.2.1∈lH c↔c.2.1=1\/c.2.1=2\/c.2.1=3:=by rw[t,N9];simp
 unfold s8 rcA;have u:ak (nt<|aL c.2.1 1) (aL 3 c.2.1) true=decide (¬c.2.1∈lH c):=by
  by_cases q:c.2.1<1
  .rw[aH q,aW,ag,cU (by rw[n];omega)]
  .rw[aC ah];exact gm.2 (by rw[n];omega)
 rw[u];by_cases m:c.2.1∈lH c
 rotate_left
 .rw[cU m,aQ m];rfl
 rw[cd<|λq=>q m,aK (λq=>q m),BI h,ab];by_cases a:c.1=15
 .rw[aQ a,au a];exact ob (Oc _ (DK h _)<|aai h i _) rfl
 rw[aK a,ar a];have o:=DL h c.2.1;have y:=DK h c.2.1;have j:(ak (aG c.1 13) (ae (gj (c.2.2.2.2.1,())) λv=>aa (nt<|aG v.1 0))<|some false)=aa (decide<|c.1=13/\eU c.2.2.2.2.1≠0):=by
  by_cases q:c.1=13
  .rw[au q,oI _ f.small (λx l=>by have:=f.2 x l;omega),ab];by_cases k:eU c.2.2.2.2.1=0
   .rw[au k,cd λz=>z.2 k];rfl
   .rw[ar k,cU ⟨q,k⟩];rfl
  .rw[ar q,ag,cd λz=>q z.1]
 rw[j,ab];by_cases g:c.1=13/\eU c.2.2.2.2.1≠0
 .rw[cU g,aQ g];rfl
 rw[cd g,aK g,oN _ _ o ah,ab];unfold rcE;by_cases b:(aS (xd s c.2.1) c.2.2.1).2.1=0
 rotate_left
 .rw[aK<|show ¬((aS (xd s c.2.1) c.2.2.1).2.1=0/\c.1=13) from λz=>b z.1,aQ b,ar b];rfl
 rw[au b];by_cases d:c.1=14
 .rw[aK<|show ¬((aS _ c.2.2.1).2.1=0/\c.1=13) by omega,aK (λz=>z b),aK ah,au d];rfl
 have e:c.1=13:=ah;rw[aQ<|show(aS _ c.2.2.1).2.1=0/\c.1=13 from⟨b,e⟩,aQ e,ar d,wQ _ _ _ o f.small (λx l=>by have:=f.2 x l;omega),ab];by_cases c3:pU (xd s c.2.1) (aS (xd s c.2.1) c.2.2.1).1 c.2.2.2.2.1=0
 rotate_left
 .rw[aQ c3,ar c3];rfl
 rw[aK<|λz=>z c3,au c3];exact ob (Hf h _ _ _<|Aj b) rfl
def qs.tree{s}(h:qs s)(p:Tx):mh (s,p,())=aa ((mS s.2.2.1 s.2.2.2.1 p).1,(mS s.2.2.1 s.2.2.2.1 p).2,()) :=
 NT s p (by have:=h.ll;omega) (λx a=>(h.ln x a).small)
def Kx{s}(h:qs s)(a:Tx):zi (s,a,())=aa (dfA s a,()):=by
 unfold dfA;refine ob (jK s a h) ?_;by_cases c:(aS (ix s) a).2.1=0
 rotate_left
 .rw[ar c,aQ c];rfl
 rw[au c,aK λq=>q c];exact ob (CX s _ (by have:=h.ll;omega) λx b=>(h.ln x b).small) rfl
def IJ{s}(h:qs s)(p:Tx):iV (s,p,())=aa ((BB s p).1,(BB s p).2,()):=by
 unfold iV BB;by_cases q:p=[]
 .rw[cc q,ai,aQ q]
 .rw[aY q,aK q];exact ob (h.tree p) rfl
def Fu{s}(h:qs s)(a:Tx):tV (s,a,())=aa (chA s a,()):=by
 unfold chA;refine ob (jK s a h) ?_;by_cases c:(aS (ix s) a).2.1=0
 rotate_left
 .rw[ar c,aQ c];rfl
 rw[au c,aK λq=>q c];refine ob (CX s _ (by have:=h.ll;omega) λx i=>(h.ln x i).small) ?_;refine ob (h.tree _) ?_;by_cases b:(mS s.2.2.1 s.2.2.2.1 (aS (ix s) a).1).2=0
 rotate_left
 .rw[ar b,aQ b];rfl
 rw[au b,aK λq=>q b];refine ob (IJ h _) ?_;by_cases c3:(BB s (uh s (aS (ix s) a).1).1.2.1).2=0
 rotate_left
 .rw[ar c3,aQ c3];rfl
 rw[au c3,aK λq=>q c3];have d:=DG c3;have e:=Fl b;have g:=Q8 d e;have f:=Wt _ _ (fD d) (fD e);unfold PF at f;rw[aQ ⟨d,e⟩] at f;refine ob f ?_;exact ob (aci _ g.1 g.2) rfl
def IK{s}(h:qs s)(b:s.2.2.2.2.1.length<=50000)(a:Tx):xP (s,a,())=aa (dlS s a):=by
 have d:=h.ll;have e:=h.il;have f:=h.bl;unfold dlS;refine ob (fE s a h) ?_;by_cases c:(aS (ix s) a).2.1=0
 rotate_left
 .rw[ar c,aQ c];rfl
 rw[au c,aK λq=>q c];refine ob (Ha s _ ah ah ah) ?_;cases g:Es s (aS _ a).1 with
 | true =>
   rfl
 | false =>
   rw[aE,ai,(lI s _ ah).2,ab,ab];by_cases q:0<ui s (aS (ix s) a).1
   .rw[aH q,aQ (.inr q)];rfl
   .rw[aC ah,aK (by rintro(k|k);cases k;exact q k)];exact ob (BF s _ ah ah) rfl
def Od{s}(h:qs s)(a:Tx):AQ (s,a,())=aa (dfA s a,()):=by
 unfold dfA;refine ob (fE s a h) ?_;by_cases c:(aS (ix s) a).2.1=0
 rotate_left
 .rw[ar c,aQ c];rfl
 rw[au c,aK λq=>q c];exact ob (JD s _ (by have:=h.ll;omega)) rfl
def Hg{s}(h:qs s)(a:Tx):vO (s,a,())=aa (chA s a,()):=by
 have m:=h.ll;unfold chA;refine ob (fE s a h) ?_;by_cases c:(aS (ix s) a).2.1=0
 rotate_left
 .rw[ar c,aQ c];rfl
 rw[au c,aK λq=>q c];refine ob (Bf s _ ah) ?_;by_cases f:(mS s.2.2.1 s.2.2.2.1 (aS (ix s) a).1).2=0
 rotate_left
 .rw[ar f,aQ f];rfl
 rw[au f,aK λq=>q f];refine ob (JD s _ ah) ?_;have fin:∀b,b=BB s (uh s (aS (ix s) a).1).1.2.1->b.2=0->(ae (mF (b.1,_)) λn=>ae (sE (n.1,())) λo=>aa (((0:Int),(aS (ix s) a).1,(0:Int),o.1,()),())) =
   aa _:=λb d e=>by
  subst d;have g:=DG e;have i:=Fl f;have l:=Q8 g i;have j:=N2 _ _ (fD g) (fD i);unfold PF at j;rw[aQ ⟨g,i⟩] at j;refine ob j ?_;exact ob (Tp _ l.1 l.2) rfl
 generalize (uh s (aS _ a).1)=L at fin;by_cases q:L.1.2.1=[]
 .have d:BB s L.1.2.1=([],0):=by unfold BB;rw[aQ q]
  rw[show bt L.1.2.1 []=true from cc q,aW,ag,ab];rw[ aK (by rw[d];exact λk=>k rfl)];exact fin ([],0) d.symm rfl
 .have d:BB s L.1.2.1=mS s.2.2.1 s.2.2.2.1 L.1.2.1:=by unfold BB;rw[aK q]
  rw[show bt L.1.2.1 []=false from aY q,aE,ai,Bf s _ ah,ab];by_cases e:(mS s.2.2.1 s.2.2.2.1 L.1.2.1).2=0
  .rw[au e,aW,ag,ab];rw[ aK (by rw[d];exact λk=>k e)];exact fin _ d.symm e
  .rw[ar e,aE,ai,Ku,ab,ab];rw[show cl 1 0=false from rfl,ag,aQ (by rw[d];exact e),d]
def doA(s:aU)(c:vE):aU×tD×aj :=
 if c.1=1 then crS s c.2.2.2.1 c.2.2.2.2.1 c.2.2.2.2.2.1 c.2.2.2.2.2.2.2.1 else
 if c.1=2 then dlS s c.2.2.1 else if c.1=3 then(s,dfA s c.2.2.1,()) else if c.1=4 then(s,chA s c.2.2.1,()) else
 if c.1=5 then ctA s c.2.2.1 1 else if c.1=6 then ctA s c.2.2.1 (-1) else
 if c.1=7 then crI s c.2.2.2.1 c.2.2.2.2.1 c.2.2.2.2.2.1 c.2.2.2.2.2.2.2.1 else if c.1=8 then acp s c.2.2.1 else
 if c.1=11 then crB s c.2.2.2.1 c.2.2.2.2.1 c.2.2.2.2.2.1 c.2.2.2.2.2.2.2.1 else if c.1=12 then acq s c.2.2.1 else
 if c.1=9\/c.1=10 then itA s c else if c.1=13\/c.1=14\/c.1=15 then rcA s c else(s,jq 1,())
structure A24 (s:aU):Prop where
 hd:qs s
 ids:IdS s
 bits:∀x∈s.1,vz x.2.2.2.2.2.1
 ml:s.2.2.2.2.1.length<=1000
def YP{s}(h:A24 s){c}(e:zr c):AV (s,c,())=aa (doA s c):=by
 have hd:=e.data;unfold AV doA;dsimp only;by_cases g:c.1=1
 .rw[aQ g,au g];exact ob (Am h.hd _ e.nms _ _ ah) rfl
 rw[aK g,ar g];by_cases i:c.1=2
 .rw[aQ i,au i];exact ob (IK h.hd (by have:=h.ml;omega) _) rfl
 rw[aK i,ar i];by_cases j:c.1=3
 .rw[aQ j,au j];exact ob (Od h.hd _) rfl
 rw[aK j,ar j];by_cases k:c.1=4
 .rw[aQ k,au k];exact ob (Hg h.hd _) rfl
 rw[aK k,ar k];by_cases l:c.1=5
 .rw[aQ l,au l];exact ob (Kv h.hd (by have:=h.ml;omega) _) rfl
 rw[aK l,ar l];by_cases m:c.1=6
 .rw[aQ m,au m];exact ob (Hc h.hd (by have:=h.ml;omega) _) rfl
 rw[aK m,ar m];by_cases n:c.1=7
 .rw[aQ n,au n];exact ob (IG h.hd _ e.nms _ _) rfl
 rw[aK n,ar n];by_cases o:c.1=8
 .rw[aQ o,au o];exact ob (IC h.hd _) rfl
 rw[aK o,ar o];by_cases b:c.1=11
 .rw[aQ b,au b];exact ob (IH h.hd _ e.nms _ _) rfl
 rw[aK b,ar b];by_cases d:c.1=12
 .rw[aQ d,au d];exact ob (IE h.hd (by have:=h.ml;omega) _) rfl
 rw[aK d,ar d];have t:((ak (aG c.1 9) ((aG c.1 9,()),()) ((aG c.1 10,()),())).1).1=decide (c.1=9\/c.1=10):=by
  by_cases q:c.1=9
  .rw[au q,cU (.inl q)];rfl
  .rw[ar q];exact gm.2 ⟨.inr,λz=>z.resolve_left q⟩
 rw[t];by_cases f:c.1=9\/c.1=10
 .rw[aQ f,cU f];exact ob (Oa h.hd h.bits f e) rfl
 rw[aK f,cd f];have r:((ak (aG c.1 13) ((aG c.1 13,()),()) ((((ak (aG c.1 14) ((aG c.1 14,()),()) ((aG c.1 15,()),())).1).1,()),())).1).1=decide (c.1=13\/c.1=14\/c.1=15):=by
  by_cases q:c.1=13
  .rw[au q,cU (.inl q)];rfl
  .by_cases p:c.1=14
   .rw[ar q,au p,cU (.inr<|.inl p)];rfl
   .rw[ar q,ar p];exact gm.2 ⟨λz=>.inr (.inr z),λz=>(z.resolve_left q).resolve_left p⟩
 rw[r];by_cases a:c.1=13\/c.1=14\/c.1=15
 .rw[aQ a,cU a];exact ob (II h.hd h.ids a e) rfl
 rw[aK a,cd a];rfl
def afD{s}(h:A24 s){c}(r:zr c):xO (s,c,())=aa (doA s c):=by
 have z:=r.nms.1;have hd:=r.data;have t:=h.ml;have u:=h.hd.il;unfold xO doA;dsimp only;by_cases i:c.1=1
 .rw[au i,aQ i];exact ob (BC s c.2.2.2.1 c.2.2.2.2.1 c.2.2.2.2.2.1 c.2.2.2.2.2.2.2.1 h.hd ah ah h.hd.tree) rfl
 rw[ar i,aK i];by_cases j:c.1=2
 .rw[au j,aQ j];exact ob (G7 s _ h.hd ah) rfl
 rw[ar j,aK j];by_cases k:c.1=3
 .rw[au k,aQ k];exact ob (Kx h.hd _) rfl
 rw[ar k,aK k];by_cases l:c.1=4
 .rw[au l,aQ l];exact ob (Fu h.hd _) rfl
 rw[ar l,aK l];by_cases m:c.1=5
 .rw[au m,aQ m];exact ob (ob (JG h.hd ah c.2.2.1 1) rfl) rfl
 rw[ar m,aK m];by_cases n:c.1=6
 .rw[au n,aQ n];exact ob (ob (JG h.hd ah c.2.2.1<|-1) rfl) rfl
 rw[ar n,aK n];by_cases o:c.1=7
 .rw[au o,aQ o];exact ob (G4 s _ _ _ _ h.hd ah ah) rfl
 rw[ar o,aK o];by_cases p:c.1=8
 .rw[au p,aQ p];exact ob (He s _ h.hd) rfl
 rw[ar p,aK p];by_cases e:c.1=11
 .rw[au e,aQ e];exact ob (IF s _ _ _ _ h.hd ah) rfl
 rw[ar e,aK e];by_cases f:c.1=12
 .rw[au f,aQ f];exact ob (ID h.hd h.bits ah _) rfl
 rw[ar f,aK f];rw[show(((ak _ ((aG c.1 9,()),()) _).1).1)=decide (c.1=9\/c.1=10) from by
  by_cases a:c.1=9
  .rw[au a,ai,cU (.inl a)]
  .rw[ar a];exact gm.2 ⟨.inr,λq=>q.resolve_left a⟩]
 by_cases g:c.1=9\/c.1=10
 .rw[cU g,aQ g];exact ob (afC h.hd h.bits c g ah) rfl
 rw[cd g,aK g];rw[show(((ak _ _ ((((ak _ ((aG c.1 14,()),()) _).1).1,()),())).1).1)=decide (c.1=13\/c.1=14\/c.1=15) from by
  by_cases a:c.1=13
  .rw[au a,ai,cU (.inl a)]
  .by_cases b:c.1=14
   .rw[ar a,ag,au b,ai,cU (.inr<|.inl b)]
   .rw[ar a,ar b];exact gm.2 ⟨λq=>.inr (.inr q),λq=>(q.resolve_left a).resolve_left b⟩]
 by_cases d:c.1=13\/c.1=14\/c.1=15
 .rw[cU d,aQ d];refine ob (YO h.hd h.ids c d ah λid v=>?_) rfl;rcases v with q|q|⟨x,y⟩
  .exact Ey h.hd h.bits _ _ ah id (.inl q)
  .exact Ey h.hd h.bits _ _ ah id (.inr q)
  .exact Tr h.hd _ _ ah id x y
 rw[cd d,aK d];rfl
structure jr (n:Nat) (s:aU):Prop where
 bl:s.1.length<=n
 il:s.2.1.length<=n
 ll:s.2.2.1.length<=n
 dl:s.2.2.2.1.length<=n
 ml:s.2.2.2.2.1.length<=n+100
 xb:∀x∈s.1,pL x.2.1/\vz x.2.2.2.2.2.1/\x.1.length<=1048576
 xi:∀x∈s.2.1,pL x.2.1/\vz x.2.2.2.2.1/\x.1.length<=1048576
 xl:∀x∈s.2.2.1,pL x.2.2.1/\x.1.length<=1048576
def jr.up{n s}(h:jr n s):jr (n+1) s:=⟨TV h.bl,TV h.il,TV h.ll,TV h.dl,by have:=h.ml;omega,h.xb,h.xi,h.xl⟩
def jr.to{n m s}(h:jr n s)(a:n<=m):jr m s:=⟨fi h.bl a,fi h.il a,fi h.ll a,fi h.dl a,by have:=h.ml;omega,h.xb,h.xi,h.xl⟩
def jr.a{s}(h:jr 60 s):A24 s:=⟨⟨h.ll,h.il,h.bl,λx b=>(h.xl x b).1,λx b=>(h.xi x b).1,λx b=>(h.xb x b).1,λx b=>(h.xi x b).2.1⟩,⟨λx b=>(h.xb x b).2.2,λx b=>(h.xi x b).2.2,λx b=>(h.xl x b).2⟩,λx b=>(h.xb x b).2.1,by have:=h.ml;omega⟩
def jr.slf{n s}(h:jr n s)(b:n<=60):akT s:=⟨by have:=h.bl;omega,by have:=h.il;omega,by have:=h.ll;omega,by have:=h.dl;omega,by have:=h.ml;omega,λx a=>⟨(h.xb x a).1,(h.xb x a).2.1⟩,λx a=>⟨(h.xi x a).1,(h.xi x a).2.1⟩,λx a=>(h.xl x a).1⟩
def jr.ite{n p}[Decidable p]{u v:aU×tD×aj}(a:p->jr n u.1)(b:¬p->jr n v.1):jr n (if p then u else v).1:=by
 split
 .exact a ‹_›
 .exact b ‹_›
def aaj{n s}(h:jr n s) id k:jr (n+1) (Tj s id k):=by
 have a:=h.up;have b:=(K9 (λz=>z.1) s.2.2.2.2.1 id).length_le;have c:=h.ml;refine⟨a.bl,a.il,a.ll,a.dl,?_,a.xb,a.xi,a.xl⟩;unfold Tj;dsimp only;split
 .rw[vD];omega
 .omega
def aio{n s}(h:jr n s) id:jr (n+1) (Ws s id):=by
 have a:(yd s.2.2.1.length s.2.2.2.1).length<=n:=by rw[qt];exact h.ll
 unfold Ws;cases Fj s.2.2.1 id with
 | none=>exact aaj (s:=(s.1,s.2.1,s.2.2.1,yd s.2.2.1.length s.2.2.2.1,s.2.2.2.2)) ⟨h.bl,h.il,h.ll,a,h.ml,h.xb,h.xi,h.xl⟩ id 0
 | some i=>exact aaj (s:=(s.1,s.2.1,cutAt s.2.2.1 i,cutAt _ i,s.2.2.2.2)) ⟨h.bl,h.il,fi (Ah _ _) h.ll,fi (Ah _ _) a,h.ml,h.xb,h.xi,λx b=>h.xl x (Q4 _ _ x b)⟩ id 0
def afE{n s}(h:jr n s){x}(c:pL x.2.2.1)(b:x.1.length<=1048576) d:jr (n+1) (Jz s x d):=by
 have e:=h.ll;have a:=h.up;refine⟨a.bl,a.il,?_,?_,a.ml,a.xb,a.xi,λy hy=>?_⟩
 .show(p5 _ s.2.2.1 x).length<=_
  rw[vD];omega
 .show(tJ _ _ _).length<=_
  unfold tJ;simp only[iC,dk,rj,qt,iD,p6];omega
 .rcases(yc _).1 hy with rfl|hy
  .exact⟨c,b⟩
  .exact a.xl y hy
def aak{l d}(h:¬(dB l d).2.1≠0):(dB l d).1.length<=1048576:=by
 have:=(CD<|BK h).2.1.2;omega
def aal{n s}(h:jr n s){bo}(a:bo.length<=n)(b:∀x∈bo,pL x.2.1/\vz x.2.2.2.2.2.1/\x.1.length<=1048576):jr n (bo,s.2):=⟨a,h.il,h.ll,h.dl,h.ml,b,h.xi,h.xl⟩
def aam{n s}(h:jr n s){im}(a:im.length<=n)(b:∀x∈im,pL x.2.1/\vz x.2.2.2.2.1/\x.1.length<=1048576):jr n (s.1,im,s.2.2):=⟨h.bl,a,h.ll,h.dl,h.ml,h.xb,b,h.xl⟩
def IL{α}{a:α->Tx}{l p x}(h:x∈Is a l p):x∈l:=by
 unfold Is at h;split at h
 .exact Q4 _ _ x h
 .exact h
def Rc{s}(h:IdS s){k ref}(c:(aS (xd s k) ref).2.1=0):(aS (xd s k) ref).1.length<=1048576:=by
 rcases Aj c with ⟨_,x,a,e⟩|⟨_,x,a,e⟩|⟨_,x,a,e⟩
 .rw[<-e];exact h.idB x a
 .rw[<-e];exact h.idI x a
 .rw[<-e];exact h.idL x a
def akY{n s}(h:jr n s){c}(f:zr c):jr (n+1) (itA s c).1:=by
 have a:=h.up;refine jr.ite (λ_=>a) λ_=>jr.ite (λ_=>a) λg=>?_;have b:=Rc ⟨λx hx=>(h.xb x hx).2.2,λx hx=>(h.xi x hx).2.2,λx hx=>(h.xl x hx).2⟩ (BK g);generalize (aS _ c.2.2.1).1=id at b;refine jr.ite (λ_=>?_) λ_=>?_
 .have d:pL (vZ (λz=>z.1) s.1 F4 id).2.1/\vz (vZ (λz=>z.1) s.1 F4 id).2.2.2.2.2.1:=by
   rcases To with q|q
   .exact⟨(h.xb _ q).1,(h.xb _ q).2.1⟩
   .rw[q];exact⟨G9,Ak⟩
  cases e:(itF (vZ (λz=>z.1) s.1 F4 id).2.2.2.2.2.1 c id).1 with
  | none=>exact a
  | some m =>
    have i:=u9 (λz=>z.1) s.1 id;have j:=h.bl;refine aal a (by show(p5 _ _ _).length<=_;rw[vD];omega) λx hx=>?_;rcases(yc _).1 hx with rfl|hx
    .exact⟨d.1,(Ww e d.2 f.key),b⟩
    .exact a.xb x (IL hx)
 .have d:pL (vZ (λz=>z.1) s.2.1 PG id).2.1/\vz (vZ (λz=>z.1) s.2.1 PG id).2.2.2.2.1:=by
   rcases To with q|q
   .exact⟨(h.xi _ q).1,(h.xi _ q).2.1⟩
   .rw[q];exact⟨G9,Ak⟩
  cases e:(itF (vZ _ s.2.1 PG id).2.2.2.2.1 c id).1 with
  | none=>exact a
  | some m =>
    have i:=u9 (λz=>z.1) s.2.1 id;have j:=h.il;refine aam a (by show(p5 _ _ _).length<=_;rw[vD];omega) λx hx=>?_;rcases(yc _).1 hx with rfl|hx
    .exact⟨d.1,(Ww e d.2 f.key),b⟩
    .exact a.xi x (IL hx)
def akZ{n s}(h:jr n s){c}(e:zr c):jr (n+1) (rcA s c).1:=by
 have a:=h.up;refine jr.ite (λ_=>a) λ_=>jr.ite (λ_=>a) λ_=>jr.ite (λ_=>a) λ_=>jr.ite (λ_=>a) λd=>jr.ite (λ_=>?_) λ_=>a;have f:=BK λq=>by
  have d:=BK d;unfold rcE at d;rw[aK λz=>q z.1] at d;exact q d
 have b:=Rc ⟨λx hx=>(h.xb x hx).2.2,λx hx=>(h.xi x hx).2.2,λx hx=>(h.xl x hx).2⟩ f;generalize (aS _ c.2.2.1).1=id at b;unfold rnA;split
 .have g:=u9 (λz=>z.1) s.1 id;have i:=h.bl;refine aal a (by show(p5 _ _ _).length<=_;rw[vD];omega) λx hx=>?_;rcases(yc _).1 hx with rfl|hx
  .refine⟨e.nms,?_,b⟩;rcases To with q|q
   .exact(h.xb _ q).2.1
   .rw[q];exact Ak
  .exact a.xb x (IL hx)
 split
 .have g:=u9 (λz=>z.1) s.2.1 id;have i:=h.il;refine aam a (by show(p5 _ _ _).length<=_;rw[vD];omega) λx hx=>?_;rcases(yc _).1 hx with rfl|hx
  .refine⟨e.nms,?_,b⟩;rcases To with q|q
   .exact(h.xi _ q).2.1
   .rw[q];exact Ak
  .exact a.xi x (IL hx)
 .refine⟨a.bl,a.il,by show(rnL _ _ _).length<=_;rw[aag];exact a.ll,a.dl,a.ml,a.xb,a.xi,λx hx=>?_⟩;rcases List.mem_or_eq_of_mem_set hx with hx|rfl
  .exact h.xl x hx
  .exact⟨e.nms,b⟩
def afF{n s}(h:jr n s){c}(d:zr c):jr (n+1) (doA s c).1:=by
 have a:=h.up;have f:=h.bl;have hi:=h.il;refine jr.ite (λ_=>?_) λ_=>jr.ite (λ_=>?_) λ_=>jr.ite (λ_=>a) λ_=>jr.ite (λ_=>a) λ_=>jr.ite (λ_=>?_) λ_=>jr.ite (λ_=>?_) λ_=>jr.ite (λ_=>?_) λ_=>jr.ite (λ_=>?_) λ_=>jr.ite (λ_=>?_) λ_=>jr.ite (λ_=>?_) λ_ =>
  jr.ite (λ_=>akY h d) λ_=>jr.ite (λ_=>akZ h d) λ_=>a
 .unfold crS;exact jr.ite (λ_=>a) λ_=>jr.ite (λ_=>a) λ_=>jr.ite (λ_=>a) λ_=>jr.ite (λ_=>a) λ_=>jr.ite (λ_=>a) λb=>jr.ite (λ_=>a) λ_=>jr.ite (λ_=>a) λ_=>jr.ite (λ_=>a) λ_=>afE h d.nms (aak b) _
 .unfold dlS;exact jr.ite (λ_=>a) λ_=>jr.ite (λ_=>a) λ_=>aio h _
 .unfold ctA;exact jr.ite (λ_=>a) λ_=>jr.ite (λ_=>a) λ_=>jr.ite (λ_=>a) λ_=>aaj h _ _
 .unfold ctA;exact jr.ite (λ_=>a) λ_=>jr.ite (λ_=>a) λ_=>jr.ite (λ_=>a) λ_=>aaj h _ _
 .unfold crI;refine jr.ite (λ_=>a) λ_=>jr.ite (λ_=>a) λ_=>jr.ite (λ_=>a) λ_=>jr.ite (λ_=>a) λb=>aam a (by rw[vD];omega) λx hx=>?_;rcases(yc _).1 hx with rfl|hx
  .exact⟨d.nms,Ak,aak b⟩
  .exact a.xi x hx
 .unfold acp;exact jr.ite (λ_=>a) λ_=>jr.ite (λ_=>a) λ_=>aam a (by have:=u9 (λz=>z.1) s.2.1 (aS (yp s) c.2.2.1).1;omega) λx hx=>a.xi x (IL hx)
 .unfold crB;refine jr.ite (λ_=>a) λ_=>jr.ite (λ_=>a) λ_=>jr.ite (λ_=>a) λ_=>jr.ite (λ_=>a) λb=>jr.ite (λ_=>a) λ_=>?_;have e:jr (n+1) (crG s (if c.2.2.2.1=[] then [] else BE s (Fm s c.2.2.2.1)) []<|Eu c.2.2.2.2.2.2.2.1).1:=by
   exact jr.ite (λ_=>a) λ_=>jr.ite (λ_=>a) λ_=>jr.ite (λ_=>a) λ_=>jr.ite (λ_=>a) λb=>jr.ite (λ_=>a) λ_=>afE h G9 (aak b) _
  refine aal e (by rw[vD];omega) λx hx=>?_;rcases(yc _).1 hx with rfl|hx
  .exact⟨d.nms,Ak,aak b⟩
  .exact a.xb x hx
 .unfold acq;have g:=u9 (λz=>z.1) s.1 (aS (Dy s) c.2.2.1).1;exact jr.ite (λ_=>a) λ_=>jr.ite (λ_=>a) λ_=>aio (aal h ah λx hx=>h.xb x (IL hx)) _
abbrev Hn:=Int×vE×Int×Int×Int×tD×aj
abbrev n7:=List Hn×List Int×aj
def Fv{a:Type}(l:List a)(p:Nat->a->Bool):Bool:=@decide (∃(i:Nat) (x:a),l[i]?=aa x/\p i x=true) (Classical.propDecidable _)
def yg{α l p}:Fv l p=true↔∃(i:Nat) (x:α),l[i]?=aa x/\p i x=true:=@decide_eq_true_iff _ (Classical.propDecidable _)
def An{α}{l:List α}{p}(h:∀i x,l[i]?=aa x->p i x=false):Fv l p=false:=by
 cases b:Fv l p with
 | false=>rfl
 | true=>obtain⟨i,x,c,a⟩:=yg.1 b;rw[h i x c] at a;cases a
def unE(e:Hn):Int:=if e.2.2.2.2.1=3 then 9223372036854775807 else e.2.2.2.1
def ahE(e:Hn):wL (e,())=aa (unE e,()):=by
 unfold wL unE;by_cases h:e.2.2.2.2.1=3<;>simp[h,ak,aG]
def DN(e:Hn):kx (e,())=aa (unE e,()):=by
 unfold kx unE;by_cases h:e.2.2.2.2.1=3<;>simp[h,ak,aG]
def v7(u:List Bool)(a:Int)(i:Nat)(e:Hn):Bool:=(u[i]?==aa false)&&(decide (e.2.2.2.2.1=1)&&decide (e.2.2.2.1<a))
def uj{α}{f:(Bool×Int×aj)×aj->Option (((Bool×Int×aj)×aj)⊕(Nat×(Bool×Int×aj)×aj))} a b (l:List α) (m:l.length<=1000) p
  (d:∀(i:Nat) e,l[i]?=aa e->f ((a,i,()),())=aa (if p i e=true then .inr (1,(b,i,()),()) else .inl ((a,aw .i64 i 1,()),())))
  (c:f ((a,(l.length:Int),()),())=aa (.inr (0,(a,(l.length:Int),()),()))) :
  (Fv l p=true/\∃i,Loop f ((a,0,()),())=aa (1,(b,i,()),()))\/(Fv l p=false/\∃i,Loop f ((a,0,()),())=aa (0,(a,i,()),())):=by
 rcases eu l (λi=>((a,i,()),())) p (λi x=>(1,(b,(i:Int),()),())) _ ah (λi x hx hi g=>by rw[d i x hx,g]) c with ⟨i,x,hx,j,_,h⟩|⟨k,h⟩
 .exact .inl ⟨yg.2 ⟨i,x,hx,j⟩,i,h⟩
 .exact .inr ⟨An k,_,h⟩
def Re{f:(Bool×Int×aj)×aj->Option (((Bool×Int×aj)×aj)⊕(Nat×(Bool×Int×aj)×aj))}{β}(g:Bool->β) l u (o:u.length=l.length) (m:l.length<=1000) a
  (n:∀(i:Nat) e b,l[i]?=aa e->u[i]?=aa b->f ((false,i,()),())=ak (ak (ak (nt b) (aG e.2.2.2.2.1 1) false) (aL e.2.2.2.1 a) false) (aa<|.inr (1,(true,i,()),())) (aa<|.inl ((false,aw .i64 i 1,()),())))
  (c:f ((false,(l.length:Int),()),())=aa (.inr (0,(false,(l.length:Int),()),()))) :
  ae (Loop f ((false,0,()),())) (λy=>ak (cl y.1 0) (aa<|g false) (aa<|g y.2.1.1))=aa (g<|Fv l<|v7 u a):=by
 rcases uj false true l m (v7 u a) (λi e j=>by
  have hi:=av j;have k:u[i]?=aa u[i]:=fH ah;rw[n i e _ j k];unfold v7;rw[k];cases u[i]<;>by_cases d:e.2.2.2.2.1=1<;>by_cases h:e.2.2.2.1<a<;>simp[ak,nt,aG,aL,d,h]) c with ⟨d,i,h⟩|⟨d,i,h⟩
 .rw[h,d];rfl
 .rw[h,d];rfl
def JH(r:n7)(u:List Bool)(p:Nat):Bool:=match r.2.1[p]? with
 | some a=>!Fv r.1 (v7 u a)
 | none=>false
def Oe(b:List Int)(p:Nat)(e:Hn):Bool:=match b[p]? with|some a=>decide (a<e.2.2.1)|none=>false
def WA(b:List Int)(p:Nat)(e:Hn):Bool:=match(if p=0 then af else b[p-1]?) with|some a=>decide (unE e<a)|none=>false
def Rf pw (p:Nat) e:ak (aL p<|len pw) (ae (idx pw p) λy=>aa (aL y e.2.2.1)) (aa false)=aa (Oe pw p e):=by
 unfold Oe;rw[yP,su];by_cases h:p<pw.length
 .rw[cU h,fH h];rfl
 .rw[cd h,FA ah];rfl
def WB{a:List Int}{p e}(b:p<=a.length)(c:a.length<=1000):ak (aL 0 p) (ae (idx a<|cA .i64 p 1) λy=>aa (aL (unE e) y)) (aa false)=aa (WA a p e):=by
 unfold WA;cases p with
 | zero=>rfl
 | succ p =>
   rw[aH ah,df ah ah,show((p+1:Nat):Int)-1=p by omega,su,Nat.add_sub_cancel,fH ah];rfl
def Rg(r:n7)(u:List Bool)(p k:Nat)(e:Hn):Bool :=
 (u[k]?==aa false)&&(!Oe r.2.1 p e&&(!WA r.2.1 p e&&!Fv r.1 (v7 (u.set k true) e.2.2.1)))
def acu(f e:Hn):Bool:=decide (f.2.2.2.2.1≠3)&&decide (f.2.2.2.1<e.2.2.1)
def Ez(l:List Hn)(u:List Bool)(e:Hn):List Bool:=(l.zip u).map λx=>acu x.1 e||x.2
def Ts(s:aU)(c:vE):aU×tD:=if c.1=16 then(s,0,[],0,[],()) else((doA s c).1,(doA s c).2.1)
def vG(r:n7)(q:aU×List Bool×Nat)(k:Int):Option (aU×List Bool×Nat) :=
 if k=-1 then(if JH r q.2.1 q.2.2=true then aa ((q.1.1,q.1.2.1,q.1.2.2.1,q.1.2.2.2.1,[],()),q.2.1,q.2.2+1) else af)
 else if 0<=k then(match r.1[k.toNat]? with
  | some e=>if Rg r q.2.1 q.2.2 k.toNat e=true/\(e.2.2.2.2.1=1->(Ts q.1 e.2.1).2=e.2.2.2.2.2.1) then aa ((Ts q.1 e.2.1).1,Ez r.1 (q.2.1.set k.toNat true) e,q.2.2) else af
  | none=>af)
 else af
def YQ(a b:tD):an (aG a.1 b.1) (an (bt a.2.1 b.2.1)<|an (aG a.2.2.1 b.2.2.1)<|an (bt a.2.2.2.1 b.2.2.2.1) true)=decide (a=b):=by
 obtain⟨c,d,e,f,_⟩:=a;obtain⟨g,h,i,j,_⟩:=b;by_cases k:c=g<;>by_cases l:d=h<;>by_cases m:e=i<;>by_cases n:f=j<;>simp[an,aG,bt]
def WC{S R}{f:S->Option (S⊕R)}(d:Int->List Bool->S) fin (l:List Hn) u w (q:u.length=l.length) (r:w.length=l.length) (c:Nat->Hn->Bool)
  (k:∀i x b,l[i]?=aa x->u[i]?=aa b->w[i]?=aa (c i x||b))
  (a:∀(i:Nat) x v,l[i]?=aa x->v.length=l.length->f (d i v)=aa (.inl<|d ((i+1:Nat):Int)<|if c i x=true then v.set i true else v)) (e:f (d l.length w)=aa (.inr fin)):Loop f (d 0 u)=aa fin:=by
 have:=cV l.length (λj=>d j (w.take j++u.drop j)) (λj m=>?_) (by
  rw[JK ah,List.drop_eq_nil_of_le ah,tK];exact e)
 .simpa using this
 .have hx:=fH m;have g:j<u.length:=ah;rw[a j _ _ hx cT];have h:=k j _ _ hx (fH g);have n:w.take (j+1)=w.take j++[c j l[j]||u[j]]:=by rw[yn,h];rfl
  have o:(w.take j).length=j:=cT;rw[(BT g),n,xg];cases p:c j l[j] with
  | true =>
    rw[ List.set_append_right _ _ ah,o,Nat.sub_self];rfl
  | false=>simp
def IM{l u e}(a:u.length=l.length):(Ez l u e).length=l.length:=by simp[Ez,a]
def WD{l u e}{i:Nat}{x b}(a:l[i]?=aa x)(c:u[i]?=aa b):(Ez l u e)[i]?=aa (acu x e||b):=by
 unfold Ez;rw[JN,show _[i]?=aa (x,b) from ahU.2 ⟨a,c⟩];rfl
def YR(x e:Hn):lA (x,e,())=aa (acu x e,()):=by
 unfold lA acu;by_cases a:x.2.2.2.2.1=3<;>by_cases b:x.2.2.2.1<e.2.2.1<;>simp[ak,nt,aG,aL]
def afG{f}(l:List Hn) u (e:Hn) (d:u.length=l.length) (k:l.length<=1000)
  (g:∀i v,f ((i,()),v,())=cq (ak (aL i<|len l) (ae (idx l i) λa=>ae (lA (a,e,())) λb=>ae (ak b.1 (ak (within i<|len v) (ae (idx v i) λ_=>ae (idx v i) λ_=>ae (idx v i) λ_=>aa ((),kh v i true,())) af)<|some ((),v,())) λz=>aa (az ((aw .i64 i 1,()),z.2.1,())))<|some<|aA (0,(i,()),v,()))) :
  ∃j,Loop f ((0,()),u,())=aa ((j,()),Ez l u e,()):=by
 refine⟨l.length,WC (λi v=>((i,()),v,())) _ l u (Ez l u e) d (IM d) _ (λi x b c h=>WD c h) (λi x v c m=>?_) ?_⟩
 .have hi:=av c;rw[g,al hi,ao c,ab,YR,aB ah];cases acu x e with
  | true=>rw[ aF ah dR,ao (fH ah)];rfl
  | false=>rfl
 .rw[g,aq];rfl
abbrev PlT:=aU×List Bool×Int×List Int×aj
abbrev QT:=aU×List Bool×Nat
def zP:PlT:=(([],[],[],[],[],()),[],0,[],())
def plQ(q:QT)(a:List Int):PlT:=(q.1,q.2.1,(q.2.2:Int),a,())
def ak2(o:Option QT)(a:List Int)(k:Int):PlT×Bool×aj:=match o with|some q=>(plQ q<|a++[k],true,())|none=>(zP,false,())
def acv{β}(g:Bool->β) l {u} (d:u.length=l.length) (f:l.length<=1000) a:ae (Loop (SI l u a) ((false,0,()),())) (λy=>ak (cl y.1 0) (aa<|g false) (aa<|g y.2.1.1))=aa (g<|Fv l<|v7 u a) :=
 Re g l u d f a (λj e b c h=>by
  unfold SI;rw[al<|av c,ai,ao c,ab,ao h,ab]) (by
  unfold SI;rw[aq,ag])
def YS{β}(g:Bool->β) l {u} (d:u.length=l.length) (f:l.length<=1000) a:ae (Loop (KX l u a) ((false,0,()),())) (λy=>ak (cl y.1 0) (aa<|g false) (aa<|g y.2.1.1))=aa (g<|Fv l<|v7 u a) :=
 Re g l u d f a (λj e b c h=>by
  unfold KX;dsimp only;rw[al<|av c,ai,ao c,ab,aF ah (by unfold len;have:=av c;omega),ai,ao h,ab]) (by
  unfold KX;rw[aq,ag])
def Of(r:n7)(u:List Bool)(p:Nat):Bool:=Fv r.1 (λi e=>(u[i]?==aa false)&&decide (e.2.2.2.2.1=1))||decide (p<r.2.1.length)
def acw{β}(g:Bool->β) r {u} (j:u.length=r.1.length) (h:r.1.length<=1000) (p:Nat):ae (Loop (H4 r.1 u) ((false,0,()),())) (λy=>ak (cl y.1 0) (aa<|g<|aL p<|len r.2.1) (aa<|g y.2.1.1))=aa (g<|Of r u p):=by
 unfold Of;rcases uj (f:=H4 r.1 u) false true r.1 h (λi e=>(u[i]?==aa false)&&decide (e.2.2.2.2.1=1)) (λi e c=>by
  have hi:=av c;have d:u[i]?=aa u[i]:=fH ah;unfold H4;rw[al hi,ao c,ab,ao d,ab,d];cases u[i]<;>by_cases a:e.2.2.2.2.1=1<;>simp[ak,nt,aG,a]) (by
  unfold H4;rw[aq,ag]) with ⟨a,i,b⟩|⟨a,i,b⟩
 .rw[b,a];rfl
 .rw[b,a,yP];rfl
def acx{U} r {s u p e} (w:U) (g:u.length=r.1.length) (i:r.1.length<=1000) (j:r.2.1.length<=1000) (k:e.length<=1000) :
  MQ r.1 r.2.1 (plQ (s,u,p) e) w=aa (ak2 (vG r (s,u,p)<|-1) e<|-1,w):=by
 unfold MQ vG plQ;dsimp only;rw[aQ rfl];cases c:r.2.1[p]? with
 | none =>
   have hlen:r.2.1.length<=p:=by
    rcases tL p r.2.1.length with h|h
    .rw[fH h] at c;cases c
    .exact h
   rw[pJ,cU hlen,aK (by unfold JH;rw[c];simp)];rfl
 | some a =>
   have l:=av c;have f:JH r u p=!Fv r.1 (v7 u a):=by unfold JH;rw[c]
   rw[pJ,cd ah,ao c,ab,acv (λb=>((b,()),())) r.1 g i a];rcases Ow (Fv r.1 _) with d|d
   .rw[aK<|by rw[f,d];simp,d];rfl
   .rw[aQ<|by rw[f,d];rfl,d,dh ah,aJ cT,aB ah];rfl
def acy{U}(r:n7){s u p q n}(w:U)(C:n<r.1.length)(D:u.length=r.1.length)(z:r.1.length<=1000)(E:p<=r.2.1.length)(t:r.2.1.length<=1000)(F:q.length<=1000)(G:A24 s)(H:∀e∈r.1,zr e.2.1) :
  H5 r.1 r.2.1 (plQ (s,u,p) q) n w=aa (ak2 (vG r (s,u,p) n) q n,w):=by
 have l:=fH C;generalize r.1[n]=e at l;unfold H5 vG plQ;rw[aK ah,aQ ah,vb,l];dsimp only;have g:(u.set n true).length=r.1.length:=by simp[D]
 rw[ao l,ab,Rf,ab,ahE,ab,WB E t,ab];unfold Rg;have A:u[n]?=aa u[n]:=fH ah;rw[ao A,ab,A];cases u[n] with
 | true=>rfl
 | false =>
   rcases Ow (Oe r.2.1 p e) with m|m
   .rw[m];rfl
   rcases Ow (WA r.2.1 p e) with x|x
   .rw[m,x];rfl
   rw[m,x,dh ah,dh ah,aJ cT,aF ah dR,ab,ab,ab,Cu,YS (λb=>((b,()),w)) r.1 g z,ab];rcases Ow (Fv r.1 _) with y|y
   .rw[y];rfl
   rw[y];have k:∀a,ak (aG e.2.2.2.2.1 1) (nt<|an (aG a.1 e.2.2.2.2.2.1.1) _) false=!decide (e.2.2.2.2.1=1->a=e.2.2.2.2.2.1):=λa=>by
    rw[YQ];by_cases I:e.2.2.2.2.1=1<;>by_cases J:a=e.2.2.2.2.2.1<;>simp[ak,nt,aG]
   obtain⟨j,B⟩:=afG (f:=aev r.1 e) r.1 _ e g z (λi v=>rfl);by_cases o:e.2.1.1=16
   .have c:Ts s e.2.1=_:=aQ o;rw[au o,k (0,[],0,[],()),c];by_cases d:(e.2.2.2.2.1=1->((0,[],0,[],()):tD)=e.2.2.2.2.2.1)
    .rw[cU d,Bool.not_true,aQ ⟨rfl,d⟩];exact ob B rfl
    .rw[cd d,aK λh=>d h.2];rfl
   .have c:Ts s e.2.1=_:=aK o;rw[ar o,afD G (H e<|eG l),ab,k,c];by_cases d:(e.2.2.2.2.1=1->(doA s e.2.1).2.1=e.2.2.2.2.2.1)
    .rw[cU d,aQ ⟨rfl,d⟩];exact ob B rfl
    .rw[cd d,aK λh=>d h.2];rfl
def acz{r}{q:QT}{k}(b:k≠-1)(c:¬(0<=k/\k<r.1.length)):vG r q k=none:=by
 unfold vG;rw[aK b];by_cases a:0<=k
 .rw[aQ a,FA ah]
 .rw[aK a]
def afH(x:aU×n7×List Int×aj){i:Nat}{k}(f:x.2.2.1[i]?=aa k){s u p c}{z:aU}(g:u.length=x.2.1.1.length)(t:x.2.1.1.length<=5)(j:p<=x.2.1.2.1.length)(a:x.2.1.2.1.length<=1000)(b:c.length<=1000)
  (v:i<=1000) (l:A24 s) (m:∀e∈x.2.1.1,zr e.2.1) :
  (∃q,vG x.2.1 (s,u,p) k=aa q/\dY x ((false,(i:Int),()),(s,u,(p:Int),c,()),z,())=aa (.inl ((false,((i+1:Nat):Int),()),(q.1,q.2.1,(q.2.2:Int),c++[k],()),z,()))) \/
  (vG x.2.1 (s,u,p) k=af/\∃o,dY x ((false,i,()),(s,u,p,c,()),z,())=aa (.inr (1,(false,i,()),o,([],[],[],[],[],()),()))):=by
 unfold dY;rw[al<|av f,ao f,ab,aB ah];by_cases d:k=-1
 .subst d;rw[ show MQ x.2.1.1 x.2.1.2.1 (s,_) ()=_ from acx x.2.1 () g ah a b];cases vG x.2.1 _ (-1) with
  | some q=>exact .inl ⟨q,rfl,rfl⟩
  | none=>exact .inr ⟨rfl,_,rfl⟩
 rw[ar d];by_cases h:0<=k/\k<x.2.1.1.length
 case neg =>
  refine .inr ⟨acz d h,?_⟩;by_cases r:0<=k
  .rw[bz r,aC dR];exact⟨_,rfl⟩
  .rw[cG ah];exact⟨_,rfl⟩
 obtain⟨n,rfl⟩:=TM h.1;rw[ aH dR,show H5 x.2.1.1 x.2.1.2.1 (s,_) n ()=_ from acy x.2.1 () ah g ah j a b l m];cases vG x.2.1 _ n with
 | some q=>exact .inl ⟨q,rfl,rfl⟩
 | none=>exact .inr ⟨rfl,_,rfl⟩
def yh(e:Hn):mm (e,())=aa (decide<|e.2.2.2.2.1=1,()):=rfl
def aao{e}(h:e.2.2.2.2.1=1):unE e=e.2.2.2.1:=by unfold unE;rw[aK ah]
def acA r {u} (m:u.length=r.1.length) (k:r.1.length<=1000) (p:Nat):uZ (r.1,r.2.1,u,p,())=aa (JH r u p,()):=by
 unfold uZ JH;dsimp only;cases d:r.2.1[p]? with
 | none =>
   have hlen:r.2.1.length<=p:=by
    rcases tL p r.2.1.length with h|h
    .rw[fH h] at d;cases d
    .exact h
   rw[pJ,cU hlen,ai]
 | some a =>
   have l:=av d;rw[pJ,cd ah];rcases uj (f:=pI (r.1,r.2.1,u,p,())) false false r.1 k (v7 u a) (λi e g=>by
    have hi:=av g;have j:u[i]?=aa u[i]:=fH ah;unfold pI v7;rw[al hi,ao j,ao g,ao d,j,ab];cases u[i] with
    | true=>rfl
    | false =>
      by_cases b:e.2.2.2.2.1=1
      .rw[aE,ab,yh,ab,ab,DN,aao b,cU b];by_cases c:e.2.2.2.1<a<;>simp[ak,aL,c,ae]
      .rw[ ab,yh,cd b];simp[ak,ae]) (by
    unfold pI;rw[aq,ag]) with ⟨b,i,c⟩|⟨b,i,c⟩
   .rw[c];show _=aa (!Fv _ _,());rw[b];rfl
   .rw[c];show _=aa (!Fv _ _,());rw[b];rfl
def afI(r:n7){u}(t:u.length=r.1.length)(o:r.1.length<=1000){p}(q:p<=r.2.1.length)(g:r.2.1.length<=1000){k:Nat}{e}(h:r.1[k]?=aa e) :
  wM (r.1,r.2.1,u,p,k,())=aa (Rg r u p k e,()):=by
 unfold wM Rg;have s:=av h;have b:u[k]?=aa u[k]:=fH ah;rw[ao b,ab,b];cases u[k] with
 | true=>rfl
 | false =>
   rw[ ao h,ab,Rf,ab];rcases Ow (Oe r.2.1 p e) with j|j
   .rw[j];rfl
   rw[j,ab,DN,ab,WB q g];rcases Ow (WA r.2.1 p e) with l|l
   .rw[l];rfl
   rw[l];rcases uj (f:=re (r.1,r.2.1,u,p,k,())) false false r.1 o (v7 (u.set k true) e.2.2.1) (λi f m=>by
    have hi:=av m;have n:u[i]?=aa u[i]:=fH ah;unfold re v7;dsimp only;rw[al hi,ao n,ao m,ao h,ab];by_cases c:i=k
    .subst c;rw[acY ah,au rfl];cases u[i]<;>rfl
    .rw[List.getElem?_set_ne<|IX c,n,ar ah];cases u[i] with
     | true=>rfl
     | false =>
       by_cases a:f.2.2.2.2.1=1
       .rw[aE,ai,ab,yh,ab,ab,DN,aao a,cU a];by_cases d:f.2.2.2.1<e.2.2.1<;>simp[ak,aL,d,ae]
       .rw[ ab,yh,cd a];simp[ak,ae]) (by
    unfold re;rw[aq,ag]) with ⟨a,i,d⟩|⟨a,i,d⟩
   .rw[d,a];rfl
   .rw[d,a];rfl
def YT(r:n7){u:List Bool}(p:u.length=r.1.length)(x:r.1.length<=1000){k e}(o:r.1[k]?=aa e)(q:e.2.2.1<=9223372036854775807)(s:Fv r.1 (v7 (u.set k true) e.2.2.1)=false) :
  wN (u,r.1,k,())=aa (Ez r.1 (u.set k true) e,()):=by
 unfold wN;dsimp only;have t:=av o;have g:(u.set k true).length=r.1.length:=by simp[p]
 have d:=WC (f:=rf (u,r.1,k,())) (λi v=>((i,(),()),v,())) ((r.1.length,(),()),Ez r.1 (u.set k true) e,()) r.1 _ (Ez r.1 _ e) g (IM g)
  (λi f=>decide (i≠k)&&(decide (f.2.2.2.2.1≠1)&&decide (unE f<e.2.2.1))) (λi f b j l=>?_) (λi f v j y=>?_) ?_
 .rw[show app ([]) u=u from rfl,aJ cT,aF ah dR,ai,ao (fH ah)];exact ob d rfl
 .rw[WD j l];cases b with
  | true=>simp
  | false =>
    have a:i≠k:=λh=>by
     subst h;rw[acY ah] at l;cases l
    unfold acu;by_cases c:f.2.2.2.2.1=1
    .have:¬f.2.2.2.1<e.2.2.1:=λh=>by
      have:=yg.2 ⟨i,f,j,show v7 _ e.2.2.1 i f=true by unfold v7;rw[l];simp[c,h]⟩;rw[s] at this;cases this
     simp[c,this]
    .by_cases m:f.2.2.2.2.1=3
     .have:¬unE f<e.2.2.1:=by unfold unE;omega
      simp[m,this]
     .have:unE f=f.2.2.2.1:=by unfold unE;rw[aK m]
      simp[c,m,a,this]
 .have hi:=av j;unfold rf;dsimp only;rw[al hi,yP,cU ah,ao j,ao o,ab,yh,ab,ab,DN,ab,ab,aB ah];by_cases a:i=k
  .subst a;rw[au rfl,aK aT];rfl
  .rw[ar ah];by_cases c:f.2.2.2.2.1=1
   .rw[aK<|by simp[c],cU c];rfl
   .by_cases n:unE f<e.2.2.1
    .rw[aQ<|by simp[a,c,n],cd c,aE,ai,aH n,aF ah dR,ao (fH ah)];rfl
    .rw[aK<|by simp[n],cd c,aC ah];rfl
 .unfold rf;rw[aq];rfl
def afJ(x:aU×n7×List Int×aj){i:Nat}{k}(t:x.2.2.1[i]?=aa k){s u p}{z:aU}(m:u.length=x.2.1.1.length)(F:x.2.1.1.length<=5)(v:p<=x.2.1.2.1.length)(o:x.2.1.2.1.length<=1000)
  (G:i<=1000) (A:A24 s) (B:∀e∈x.2.1.1,zr e.2.1) (C:∀e∈x.2.1.1,e.2.2.1<=9223372036854775807) :
  (∃q,vG x.2.1 (s,u,p) k=aa q/\eE x ((false,u,(p:Int),(i:Int),()),z,s,())=aa (.inl ((false,q.2.1,(q.2.2:Int),((i+1:Nat):Int),()),z,q.1,()))) \/
  (vG x.2.1 (s,u,p) k=af/\∃y,eE x ((false,u,p,i,()),z,s,())=aa (.inr (1,(false,y),zS,s,()))):=by
 unfold eE;rw[al<|av t,ai,ao t,ab,aB (i:=i) ah];unfold vG;by_cases r:k=-1
 .subst r;rw[ aQ rfl,acA _ m ah];rcases Ow (JH x.2.1 u p) with a|a
  .rw[a,aB ah];exact .inl ⟨_,aQ rfl,rfl⟩
  .rw[a];exact .inr ⟨aK aT,_,rfl⟩
 rw[ar r,aK r];by_cases f:0<=k
 case neg =>
  rw[aK f,aH ah];exact .inr ⟨rfl,_,rfl⟩
 obtain⟨n,rfl⟩:=TM f;rw[aQ f,aC f,vb,pJ];cases c:x.2.1.1[n]? with
 | none =>
   have hlen:x.2.1.1.length<=n:=by
    rcases tL n x.2.1.1.length with h|h
    .rw[fH h] at c;cases c
    .exact h
   rw[cU hlen];exact .inr ⟨rfl,_,rfl⟩
 | some e =>
   have D:=av c;have b:=eG c;rw[cd ah,aE,ai,aE,ai,afI x.2.1 m ah v o c,ab,ab];rcases Ow (Rg x.2.1 u p n e) with a|a
   case inr =>
    rw[a];exact .inr ⟨aK<|λh=>by rw[a] at h;exact absurd h.1 Bool.false_ne_true,_,rfl⟩
   have E:Fv x.2.1.1 (v7 (u.set n true) e.2.2.1)=false:=by
    have:=a;unfold Rg at this;simp at this;exact this.2.2.2
   rw[a,ao c,ab,YP A (B e b),ab,ab,ab,yh,ab,ab,YT x.2.1 m ah c (C e b) E];have d:(ak (aG e.2.1.1 16) ((),(0,([]),0,([]),()),s,()) ((),(doA s e.2.1).2.1,(doA s e.2.1).1,()))=((),(Ts s e.2.1).2,(Ts s e.2.1).1,()):=by
    unfold Ts;by_cases g:e.2.1.1=16
    .rw[au g,aQ g];rfl
    .rw[ar g,aK g];rfl
   rw[d,YQ];by_cases j:e.2.2.2.2.1=1
   .rw[cU j];by_cases l:(Ts s e.2.1).2=e.2.2.2.2.2.1
    .rw[cU l];exact .inl ⟨_,aQ ⟨a,λ_=>l⟩,rfl⟩
    .rw[cd l];exact .inr ⟨aK<|λh=>l (h.2 j),_,rfl⟩
   .rw[cd j];exact .inl ⟨_,aQ ⟨a,λh=>(j h).elim⟩,rfl⟩
def Ky(r:n7):aU×List Bool×Nat->List Int->Option (aU×List Bool×Nat)
 | q,[]=>aa q
 | q,k::t=>match vG r q k with
   | some q=>Ky r q t
   | none=>af
structure Iv (r:n7) (n:Nat) (q:aU×List Bool×Nat):Prop where
 st:jr n q.1
 us:q.2.1.length=r.1.length
 pw:q.2.2<=r.2.1.length
def Iv.to{r n m q}(h:Iv r n q)(k:n<=m):Iv r m q:=⟨h.st.to k,h.us,h.pw⟩
def Og{r n q g k}(h:Iv r n q)(i:∀e∈r.1,zr e.2.1)(b:vG r q k=aa g):Iv r (n+1) g:=by
 unfold vG at b;split at b
 .split at b
  case isFalse=>cases b
  rename_i f;obtain rfl:=aI b;have c:=h.st.up;refine⟨⟨c.bl,c.il,c.ll,c.dl,aT,c.xb,c.xi,c.xl⟩,h.us,?_⟩;unfold JH at f;cases d:r.2.1[q.2.2]? with
  | none=>rw[d] at f;cases f
  | some a=>exact av d
 .split at b
  case isFalse=>cases b
  cases d:r.1[k.toNat]? with
  | none=>rw[d] at b;cases b
  | some e =>
    rw[d] at b;dsimp only at b;split at b
    case isFalse=>cases b
    obtain rfl:=aI b;refine⟨?_,IM (by simp[h.us]),h.pw⟩;unfold Ts;split
    .exact h.st.up
    .exact afF h.st (i e<|eG d)
def afK(x:aU×n7×List Int×aj)(r:x.2.1.1.length<=5)(s:x.2.1.2.1.length<=10)(n:∀e∈x.2.1.1,zr e.2.1)(o:x.2.2.1.length<=20) :
  ∀c b q d,x.2.2.1=b++c->Iv x.2.1 (40+b.length) q->d.length<=b.length ->
  (∃f j l,Ky x.2.1 q c=aa f/\Iv x.2.1 60 f/\Loop (dY x) ((false,(b.length:Int),()),(q.1,q.2.1,(q.2.2:Int),d,()),zS,())=aa (0,(false,j,()),(f.1,f.2.1,(f.2.2:Int),l,()),zS,())) \/
  (Ky x.2.1 q c=af/\∃j p,Loop (dY x) ((false,(b.length:Int),()),(q.1,q.2.1,(q.2.2:Int),d,()),zS,())=aa (1,(false,j,()),p,zS,())):=by
 intro c;induction c with
 | nil =>
   intro b q d g h u;rw[tK] at g;refine .inl ⟨q,b.length,d,rfl,h.to (by rw[<-g];omega),?_⟩;have v:dY x ((false,b.length,()),(q.1,q.2.1,q.2.2,d,()),zS,())=aa (.inr (0,(false,b.length,()),(q.1,q.2.1,q.2.2,d,()),zS,())):=by
    unfold dY;rw[g,aq,ag]
   rw[aN,v];rfl
 | cons k t y =>
   intro b q d g h u;have hlen:b.length<20:=by rw[g] at o;simp at o;omega
   have z:x.2.2.1[b.length]?=aa k:=by rw[g];simp
   rcases afH x z h.us r h.pw ah (by omega:d.length<=1000) ah (h.st.to ah).a n with ⟨f,i,m⟩|⟨i,p,m⟩
   .have:=y (b++[k]) f (d++[k]) (by rw[g];simp) (by rw[iC];exact Og h n i) cT;rw[iC] at this;unfold Ky;rw[i,aN,m];exact this
   .unfold Ky;rw[i,aN,m];exact .inr ⟨rfl,_,_,rfl⟩
def afL(x:aU×n7×List Int×aj)(n:x.2.1.1.length<=5)(o:x.2.1.2.1.length<=10)(l:∀e∈x.2.1.1,zr e.2.1)(p:∀e∈x.2.1.1,e.2.2.1<=9223372036854775807)(m:x.2.2.1.length<=20) :
  ∀c b q,x.2.2.1=b++c->Iv x.2.1 (40+b.length) q ->
  (∃d j,Ky x.2.1 q c=aa d/\Iv x.2.1 60 d/\Loop (eE x) ((false,q.2.1,(q.2.2:Int),(b.length:Int),()),zS,q.1,())=aa (0,(false,d.2.1,(d.2.2:Int),j,()),zS,d.1,())) \/
  (Ky x.2.1 q c=af/\∃y w,Loop (eE x) ((false,q.2.1,(q.2.2:Int),(b.length:Int),()),zS,q.1,())=aa (1,(false,y),zS,w)):=by
 intro c;induction c with
 | nil =>
   intro b q f g;rw[tK] at f;refine .inl ⟨q,b.length,rfl,g.to (by rw[<-f];omega),?_⟩;have r:eE x ((false,q.2.1,q.2.2,b.length,()),zS,q.1,())=aa (.inr (0,(false,q.2.1,q.2.2,b.length,()),zS,q.1,())):=by
    unfold eE;rw[f,aq,ag]
   rw[aN,r];rfl
 | cons k t s =>
   intro b q f g;have hlen:b.length<20:=by rw[f] at m;simp at m;omega
   have u:x.2.2.1[b.length]?=aa k:=by rw[f];simp
   rcases afJ x u g.us n g.pw ah ah (g.st.to ah).a l p with ⟨d,h,i⟩|⟨h,y,i⟩
   .have:=s (b++[k]) d (by rw[f];simp) (by rw[iC];exact Og g l h);rw[iC] at this;unfold Ky;rw[h,aN,i];exact this
   .unfold Ky;rw[h,aN,i];exact .inr ⟨rfl,_,_,rfl⟩
def afM r {u} (j:u.length=r.1.length) (g:r.1.length<=1000) (p:Nat):wO (r.1,r.2.1,u,p,())=aa (!Of r u p,()):=by
 unfold wO Of;rcases uj (f:=rh (r.1,r.2.1,u,_)) false false r.1 g (λi e=>(u[i]?==aa false)&&decide (e.2.2.2.2.1=1)) (λi e c=>by
  have hi:=av c;have d:u[i]?=aa u[i]:=fH ah;unfold rh;rw[al hi,ai,ao d,ao c,ab,d];cases u[i] with
  | true=>rfl
  | false =>
    rw[aE,ai,ab,yh,ab,ab];by_cases a:e.2.2.2.2.1=1<;>simp[ak,a]) (by
  unfold rh;rw[aq,ag]) with ⟨a,i,b⟩|⟨a,i,b⟩
 .rw[b,a];rfl
 .rw[b,a];dsimp only;rw[pJ];by_cases h:p<r.2.1.length
  .rw[cU h,cd ah];rfl
  .rw[cd h,cU ah];rfl
def acB(c:Int)(s:aU)(r:n7)(o:List Int):aU×Bool×aj :=
 if c=0 then(match Ky r (s,List.replicate r.1.length false,0) o with
  | some q=>if Of r q.2.1 q.2.2=true then(zS,false,()) else(q.1,true,())
  | none=>(zS,false,()))
 else(zS,false,())
def YU{s}{r:n7}{o c}(h:fL (r,())=aa (c,()))(i:r.1.length<=5)(d:r.2.1.length<=10)(k:∀e∈r.1,zr e.2.1)(l:o.length<=20)(m:jr 40 s) :
  rb (s,r,o,())=aa (acB c s r o):=by
 unfold rb acB;dsimp only;rw[h,ab];by_cases a:c=0
 case neg=>rw[ar a,aK a];rfl
 rw[au a,aQ a,show inside 0 _ _=true from aO ah dR ah,dh ah];rcases afK (s,r,o,()) i d k l o [] (s,List.replicate r.1.length false,0) [] rfl ⟨m,aT,aT⟩ aT with ⟨q,j,p,f,n,g⟩|⟨f,j,t,g⟩
 .refine ob g ?_;rw[f];dsimp only;refine ob (acw (λb=>((b,()),())) r n.us ah _) ?_;cases Of r q.2.1 q.2.2<;>rfl
 .refine ob g ?_;rw[f];rfl
def YV{s}{r:n7}{o c}(g:qn (r,())=aa (c,()))(h:r.1.length<=5)(b:r.2.1.length<=10)(i:∀e∈r.1,zr e.2.1)(k:∀e∈r.1,e.2.2.1<=9223372036854775807)(l:o.length<=20)(m:jr 40 s) :
  ti (s,r,o,())=aa (acB c s r o):=by
 unfold ti acB;dsimp only;rw[g,ab];by_cases a:c=0
 case neg=>rw[ar a,aK a];rfl
 rw[au a,aQ a,show inside 0 _ _=true from aO ah dR ah,dh ah];rcases afL (s,r,o,()) h b i k l o [] (s,List.replicate r.1.length false,0) rfl ⟨m,aT,aT⟩ with ⟨q,j,d,n,f⟩|⟨d,y,w,f⟩
 .refine ob f ?_;rw[d];dsimp only;rw[ afM r n.us ah];cases Of r q.2.1 q.2.2<;>rfl
 .refine ob f ?_;rw[d];rfl
def ahF{r}(d:∀e∈r.1,zr e.2.1):∀{o n q b},Iv r n q->Ky r q o=aa b->Iv r (n+o.length) b:=by
 intro o;induction o with
 | nil=>intro n q b h a;obtain rfl:=aI a;exact h
 | cons k t f =>
   intro n q b h a;unfold Ky at a;cases c:vG r q k with
   | none=>rw[c] at a;cases a
   | some g=>rw[c] at a;exact(f (Og h d c) a).to cT
def ajp{c s r o}(b:∀e∈r.1,zr e.2.1)(g:o.length<=20)(d:jr 40 s):jr 60 (acB c s r o).1:=by
 have a:jr 60 zS:=by
  constructor<;>simp[zS]
 unfold acB;split
 .split
  .rename_i q f;split
   .exact a
   .exact(ahF b ⟨d,aT,aT⟩ f).st.to ah
  .exact a
 .exact a
abbrev YW:tD:=(0,[],0,[],())
def aap a:an (aG a.1 0) (an (bt a.2.1 [])<|an (aG a.2.2.1 0)<|an (bt a.2.2.2.1 []) true)=decide (a=YW):=YQ a YW
def WE(e:Hn):Bool:=(decide (e.2.2.2.2.1=1)&&decide (e.2.2.1<e.2.2.2.1))||((decide (e.2.2.2.2.1=2)&&(decide (e.2.2.1<e.2.2.2.1)&&decide (e.2.2.2.2.2.1=YW)))||(decide (e.2.2.2.2.1=3)&&(decide (e.2.2.2.1=0)&&decide (e.2.2.2.2.2.1=YW))))
def WG(e:Hn)(a:Int):Bool:=decide (a=e.2.2.1)||(decide (a=e.2.2.2.1)||(decide (e.2.2.1<a)&&(decide (e.2.2.2.2.1=3)||decide (a<e.2.2.2.1))))
def Rh(e f:Hn):Bool:=decide (f.1=e.1)&&(decide (f.2.2.2.2.1=3)||decide (e.2.2.1<=f.2.2.2.1))
def Hh(l:List Hn)(i:Nat):Int:=if i=0 then 0 else match l[i-1]? with|some e=>e.2.2.1|none=>0
def Tt(r:n7)(i:Nat)(e:Hn):Bool:=decide (e.2.2.1<=Hh r.1 i)||(!WE e||(Fv (r.1.take i) (λ_ f=>Rh e f)||Fv r.2.1 λ_ a=>WG e a))
def Ri(l:List Int):Prop:=∀(k:Nat) a b,l[k]?=aa a->l[k+1]?=aa b->a<b
def Oh(r:n7):Bool:=!Fv r.1 (Tt r)&&@decide (Ri r.2.1) (Classical.propDecidable _)
def acC(e:Hn) a:uW (e,a,())=aa (!WG e a,()):=by
 unfold uW WG;by_cases f:a=e.2.2.1
 .simp[ak,nt,aG,f]
 by_cases c:a=e.2.2.2.1
 .rw[au c,cU c];simp[ak,nt]
 rw[ar f,ar c,cd f,cd c];by_cases d:a<e.2.2.1
 .have:¬e.2.2.1<a:=ah;simp[ak,nt,aL,d,this]
 .have b:e.2.2.1<a:=ah;by_cases g:e.2.2.2.2.1=3
  .simp[ak,nt,aG,aL,d,b,g]
  .by_cases h:a<e.2.2.2.1
   .have:¬e.2.2.2.1<a:=ah;simp[ak,nt,aG,aL,d,b,g,h,this]
   .have:e.2.2.2.1<a:=ah;simp[ak,nt,aG,aL,d,b,h,this]
def WH(e:Hn):nT (e,())=aa (WE e,()):=by
 unfold nT WE;rw[aap];by_cases a:e.2.2.2.2.1=1
 .simp[ak,aG,aL,a]
 by_cases b:e.2.2.2.2.1=2
 .simp[ak,aG,aL,b]
 by_cases c:e.2.2.2.2.1=3
 .simp[ak,aG,c]
 .simp[ak,aG,a,b,c]
def acD(a:(Int×Int×Int×aj)×n7×aj){i:Nat}{e:Hn}(g:a.1.2.2.1=i)(s:a.2.1.1.length<=1000) :
  ae (Loop (iZ a) ((0,0,()),e,())) (λb=>ak (cl b.1 0) (aa ((false,()),b.2.2.1,())) (aa ((ch 0 b.2.1.1,()),b.2.2.1,())))=aa ((Fv (a.2.1.1.take i)<|λ_ f=>Rh e f,()),e,()):=by
 have d:sub a.2.1.1 0 (minus a.1.2.2.1 0)=a.2.1.1.take i:=by rw[g];unfold sub minus;simp
 have k:(a.2.1.1.take i).length<=1000:=cT;rcases eu (f:=iZ a) (a.2.1.1.take i) (λj=>((0,j,()),e,())) (λ_ f=>Rh e f) (λj f=>(1,(j,j,()),e,())) _ ah (λj f c l m=>by
  unfold iZ Rh;rw[d,al l,ao c,ab,m];by_cases n:f.1=e.1<;>by_cases o:f.2.2.2.2.1=3<;>by_cases p:e.2.2.1<=f.2.2.2.1<;>simp[ak,nt,aG,ch,n,o,p]) (by
  unfold iZ;rw[d,aq,ag]) with ⟨j,f,c,q,_,h⟩|⟨r,h⟩
 .refine ob h ?_;rw[yg.2 ⟨j,f,c,q⟩];dsimp only;rw[gL,ag,bz ah]
 .refine ob h ?_;rw[An r];rfl
def afN(b:(Int×Int×Int×aj)×n7×aj){e:Hn}(m:b.2.1.2.1.length<=1000) :
  ae (Loop (ja b) ((0,0,()),e,())) (λc=>ak (cl c.1 0) (aa ((false,()),c.2.2.1,())) (aa ((ch 0 c.2.1.1,()),c.2.2.1,())))=aa ((Fv b.2.1.2.1<|λ_ a=>WG e a,()),e,()):=by
 rcases eu (f:=ja b) b.2.1.2.1 (λj=>((0,j,()),e,())) (λ_ a=>WG e a) _ _ ah (λj a d g i=>by
  unfold ja;dsimp only;rw[al g,ao d,ab,i,acC];cases WG e a<;>rfl) (by
  unfold ja;rw[aq,ag]) with ⟨j,f,d,k,_,h⟩|⟨l,h⟩
 .refine ob h ?_;rw[yg.2 ⟨j,f,d,k⟩];dsimp only;rw[gL,ag,bz ah]
 .refine ob h ?_;rw[An l];rfl
def Oi{l i e}(h:l[i]?=aa e):Hh l (i+1)=e.2.2.1:=by
 unfold Hh;rw[aK ah,Nat.add_sub_cancel,h]
def acE r (k:r.1.length<=1000) (c:r.2.1.length<=1000) :
  (Fv r.1 (Tt r)=true/\∃a b,Loop (ga (r,())) (((0:Int),(0:Int),(0:Int),()),r,())=aa (1,(1,a,b,()),r,())) \/
  (Fv r.1 (Tt r)=false/\∃a b,Loop (ga (r,())) ((0,0,0,()),r,())=aa (0,(0,a,b,()),r,())):=by
 rcases eu (f:=ga (r,())) r.1 (λi=>((0,Hh r.1 i.toNat,i,()),r,())) (Tt r) _ _ ah (λi e d l m=>by
  unfold ga Tt;dsimp only;rw[al l,ao d,show inside 0 i _=true from aO ah ah dR,vb,vb,Oi d];refine ob (acD _ rfl k) ?_;refine ob (afN _ c) ?_;rw[WH,m,tk];by_cases g:e.2.2.1<=Hh r.1 i
  .rw[cU g];rfl
  .rw[cd g];cases WE e<;>cases Fv _ _<;>cases Fv r.2.1 _<;>rfl) (by
  unfold ga;rw[aq,ag,vb]) with ⟨j,f,n,c,_,h⟩|⟨o,h⟩
 .exact .inl ⟨yg.2 ⟨j,f,n,c⟩,_,_,h⟩
 .exact .inr ⟨An o,_,_,h⟩
def ajq e last:ak (nt<|ak (nt<|ak (nt<|ak (nt<|ak (nt<|ch e.2.2.1 last) (aL e.2.2.2.2.1 1) true) (aL 3 e.2.2.2.2.1) true) (ak (aG e.2.2.2.2.1 3) (nt<|aG e.2.2.2.1 0) false) true)
  (ak (nt<|aG e.2.2.2.2.1 3) (ch e.2.2.2.1 e.2.2.1) false) true)
  (ak (nt<|aG e.2.2.2.2.1 1) (nt<|decide<|e.2.2.2.2.2.1=YW) false) true=(decide (e.2.2.1<=last)||!WE e):=by
 unfold WE;simp only[ai5,nX,tk,ZW,ZV];simp only[nt];generalize e.2.2.1=b,e.2.2.2.1=n,e.2.2.2.2.1=t,e.2.2.2.2.2.1=a;by_cases i:b<=last
 .simp[i]
 have l:decide (n<=b)=!decide (b<n):=by by_cases h:b<n<;>simp[h]<;>omega
 rw[l];rcases(by omega:(t=1/\¬t<1/\¬3<t/\t≠3/\t≠2)\/(t=2/\¬t<1/\¬3<t/\t≠3/\t≠1)\/(t=3/\¬t<1/\¬3<t/\t≠1/\t≠2)\/(t≠1/\t≠2/\t≠3/\(t<1\/3<t))) with ⟨c,f,g,d,j⟩|⟨c,f,g,d,j⟩|⟨c,f,g,d,j⟩|⟨c,f,g,d⟩
 .by_cases h:b<n<;>simp[ c]
 .by_cases h:b<n<;>by_cases k:a=YW<;>simp[i,c,h,k]
 .by_cases h:n=0<;>by_cases k:a=YW<;>simp[i,c]
 .rcases d with d|d<;>simp[ c,f,g,d]
def YX r (B:r.1.length<=1000) (n:r.2.1.length<=1000) :
  (Fv r.1 (Tt r)=true/\∃a b,Loop (iB (r,())) ((false,(0:Int),(0:Int),()),())=aa (1,(false,a,b,()),())) \/
  (Fv r.1 (Tt r)=false/\∃a b,Loop (iB (r,())) ((false,0,0,()),())=aa (0,(false,a,b,()),())):=by
 have t:∀(o:(Bool×Int×Int×aj)×aj) (i:Nat) e,o.1.2.2.1=i->i<=r.1.length ->
   (Fv (r.1.take i) (λ_ f=>Rh e f)=true/\∃j,Loop (pG (r,()) o e) _=aa _)\/_:=λo i e p u =>
  uj false false _ cT _ (λj f l=>by
   have v:=av l;rw[dk] at v;rw[jM,aQ ah] at l;unfold pG Rh;dsimp only;rw[ aH ah,ao l,ab];by_cases c:f.1=e.1<;>by_cases d:f.2.2.2.2.1=3<;>by_cases g:e.2.2.1<=f.2.2.2.1<;>simp[ak,nt,aG,ch,c,d,g]) (by
   unfold pG;dsimp only;rw[ dk,aC ah,ag])
 have x:∀e,(Fv r.2.1 (λ_ a=>WG e a)=true/\∃j,Loop (pH (r,()) e) _=aa _)\/_:=λe =>
  uj false false r.2.1 n _ (λj a l=>by
   unfold pH WG;rw[al<|av l,ai,ao l,ab,ab,ab,ab];by_cases c:a=e.2.2.1
   .rw[au c,cU c];rfl
   rw[ar c,cd c,ag];by_cases d:a=e.2.2.2.1
   .rw[au d,cU d];rfl
   rw[ar d,cd d,ag];by_cases g:e.2.2.1<a
   .rw[aH g,cU g,ai];by_cases m:e.2.2.2.2.1=3
    .rw[au m,cU m];rfl
    .rw[ar m,cd m,ag,ab,ZW];by_cases y:a<e.2.2.2.1<;>simp[ak,y]
   .rw[aC ah,cd g];rfl) (by
   unfold pH;rw[aq,ag])
 rcases eu (f:=iB (r,())) r.1 (λi=>((false,Hh r.1 i.toNat,i,()),())) (Tt r) (λi e=>(1,(false,(if(decide _||!WE e)=true then Hh r.1 i else e.2.2.1,_)),())) _ ah (λi e q p z=>by
  unfold iB Tt;rw[al p,ao q,ab,vb,vb,Oi q,aap,ajq,z];cases s:(decide (e.2.2.1<=Hh r.1 i)||!WE e) with
  | true =>
    rw[ <-T0,s];rfl
  | false =>
    rw[ <-T0,s];rcases t ((false,Hh r.1 i,i,()),()) i e rfl ah with ⟨c,j,d⟩|⟨c,j,d⟩
    .refine ob d ?_;rw[c];rfl
    .refine ob d ?_;rw[c];rcases x e with ⟨g,k,m⟩|⟨g,k,m⟩
     .refine ob m ?_;rw[g];rfl
     .refine ob m ?_;rw[g];rfl) (by
  unfold iB;rw[aq,ag,vb]) with ⟨j,f,l,n,_,h⟩|⟨A,h⟩
 .exact .inl ⟨yg.2 ⟨j,f,l,n⟩,_,_,h⟩
 .exact .inr ⟨An A,_,_,h⟩
def Oj{l:List Int}{k b}:(l.drop 1)[k]?=aa b↔l[k+1]?=aa b:=by
 rw[va,T3]
def WI{l}:Ri l↔∀(k:Nat) b,(l.drop 1)[k]?=aa b->∀a,l[k]?=aa a->a<b :=
 ⟨λh k b c a d=>h k a b d (Oj.1 c),λh k a b d c=>h k b (Oj.2 c) a d⟩
def afO(r:n7)(s:r.2.1.length<=1000) :
  ae (Loop (lC (r,())) ((false,1,()),())) (λp=>ak (cl p.1 0) (aa (true,())) (aa (p.2.1.1,())))=aa (@decide (Ri r.2.1)<|Classical.propDecidable _,()):=by
 rcases eu (f:=lC (r,())) (r.2.1.drop 1) (λi=>((false,i+1,()),())) (λi b=>match r.2.1[i]? with|some a=>decide (b<=a)|none=>false) (λi b=>(1,(false,i+1,()),())) _ cT (λi b e hi d=>by
  have g:=Oj.1 e;have n:=av g;have l:r.2.1[i]?=aa r.2.1[i]:=fH ah;unfold lC;dsimp only;rw[show i+1=((i+1:Nat):Int) by omega,al n,ao g,ab,df ah ah,show((i+1:Nat):Int)-1=i by omega,ao l,ab,l,aB ah,tk];by_cases h:b<=r.2.1[i]<;>simp[ak,h]) (by
  unfold lC;rw[aC<|by unfold len;simp;omega,ag]) with ⟨j,b,e,c,_,h⟩|⟨q,h⟩
 .refine ob h ?_;have m:¬Ri r.2.1:=λo=>by
   cases d:r.2.1[j]? with
   | none=>rw[d] at c;cases c
   | some a =>
     rw[d] at c;have:=WI.1 o j b e a d;have:=fb c;omega
  rw[@decide_eq_false _ (Classical.propDecidable _) m];rfl
 .refine ob h ?_;have o:=WI.2 λk b e a d=>by
   have:=q k b e;rw[d] at this;have:=xf this;omega
  rw[@decide_eq_true _ (Classical.propDecidable _) o];rfl
def acF(r:n7)(f:r.1.length<=1000)(e:r.2.1.length<=1000):uY (r,())=aa (Oh r,()):=by
 unfold uY Oh;rcases YX r f e with ⟨c,a,b,d⟩|⟨c,a,b,d⟩
 .rw[d,c];rfl
 .rw[d,c];exact afO r e
def afP a b:te (a,b,())=aa (decide<|a<b,()):=by
 unfold te ra;rw[oj];rfl
def upP(l:List Int):Prop:=∀(k:Nat) a b,l[k]?=aa a->l[k+1]?=aa b->a<=b
def Tu l (r:l.length<=1000):fR (l,())=aa (@decide (upP l)<|Classical.propDecidable _,()):=by
 unfold fR;dsimp only;rw[df dR dR];rcases eu (f:=eS (l,())) (l.drop 1) (λj=>((false,(len l-1)-j,()),())) (λj _=>match l[l.length-1-j]?,l[l.length-2-j]? with|some b,aa a=>decide (b<a)|_,_=>false) (λj _=>(1,(false,(len l-1)-j,()),())) _ cT (λj x hx p m=>by
  have c:j+1<l.length:=by simp at p;omega
  have d:l[l.length-1-j]?=aa (l[l.length-1-j]'ah):=fH ah;have e:l[l.length-2-j]?=aa (l[l.length-2-j]'ah):=fH ah;unfold eS;dsimp only;rw[show len l-1-j=((l.length-1-j:Nat):Int) by unfold len;omega,aH ah,ao d,ab,df ah ah,show _-1=((l.length-2-j:Nat):Int) by omega,ao e,ab,afP,ab,d,e,
   show len l-1-_=((l.length-2-j:Nat):Int) by unfold len;omega]
  by_cases h:l[l.length-1-j]'ah<l[l.length-2-j]'ah<;>simp[ak,h]) (by
  unfold eS;rw[aC<|by unfold len;simp;omega,ag]) with ⟨j,x,hx,n,_,h⟩|⟨q,h⟩
 .have c:j+1<l.length:=by have:=av hx;simp at this;omega
  rw[show((false,_),())=((false,len l-1-0,()),()) by rw[adt]];refine ob h ?_;dsimp only;have g:¬upP l:=λi=>by
   have d:l[l.length-1-j]?=aa _:=fH ah;have e:l[l.length-2-j]?=aa _:=fH ah;rw[d,e] at n;have:=i _ _ _ e (by rw[show l.length-2-j+1=l.length-1-j by omega];exact d);have:=fb n;omega
  rw[@decide_eq_false _ (Classical.propDecidable _) g];rfl
 .rw[show((false,_),())=((false,len l-1-0,()),()) by rw[adt]];refine ob h ?_;have i:upP l:=λk a b m o=>by
   have c:=av o;have hd:(l.drop 1)[l.length-2-k]?=aa _:=fH cT;have:=q _ _ hd;rw[show l.length-1-_=k+1 by omega,show l.length-2-_=k by omega,m,o] at this;have:=xf this;omega
  rw[@decide_eq_true _ (Classical.propDecidable _) i];rfl
def WJ(l:List Int):(Lib.compact l).length=l.length↔∀k a b,l[k]?=aa a->l[k+1]?=aa b->a≠b:=by
 unfold Lib.compact Lib.compactUpTo;rw[y4];have g:(List.range l.length).length=l.length:=Rq;constructor
 .intro h k a b j i;have c:=av i;have:=(ahN.1<|h.trans g.symm) _ (Ln.2 c);have:=fb this;rcases this with this|this
  .omega
  .have d:l.toArray[k+1]! = b:=by simp[i]
   have f:l.toArray[k+1-1]! = a:=by simp[j]
   rw[d,f] at this;exact λh=>this h.symm
 .intro h;refine(ahN.2 λk m=>?_).trans g;have c:=Ln.1 m;refine cU ?_;cases k with
  | zero=>exact .inl rfl
  | succ k =>
    refine .inr ?_;have d:l.toArray[k+1]! = l[k+1]'c:=by simp[c]
    have f:l.toArray[k+1-1]! = l[k]'ah:=by simp[show k<l.length by omega]
    rw[d,f];exact λe=>h k _ _ (fH ah) (fH c) e.symm
def afQ l (i:l.length<=1000):tf (l,())=aa (@decide (Ri l)<|Classical.propDecidable _,()):=by
 unfold tf kv;dsimp only;rw[Tu l i,ab,dh ah];have c:Ri l↔upP l/\(Lib.compact l).length=l.length:=by
  rw[WJ];constructor
  .intro h;exact⟨λk a b d e=>by have:=h k a b d e;omega,λk a b d e=>by have:=h k a b d e;omega⟩
  .intro h k a b d e;have j:=h.1 k a b d e;have m:=h.2 k a b d e;omega
 by_cases f:upP l
 .rw[@decide_eq_true _ (Classical.propDecidable _) f,ai,ai,ab,MT];by_cases g:(Lib.compact l).length=l.length
  .rw[cU g,@decide_eq_true _ (Classical.propDecidable _) (c.2 ⟨f,g⟩)]
  .rw[cd g,@decide_eq_false _ (Classical.propDecidable _) λh=>g (c.1 h).2]
 .rw[@decide_eq_false _ (Classical.propDecidable _) f,@decide_eq_false _ (Classical.propDecidable _) λh=>f (c.1 h).1];rfl
def afR(r:n7)(f:r.1.length<=1000)(e:r.2.1.length<=1000):fL (r,())=aa (if Oh r=true then 0 else 1,()):=by
 unfold Oh;rcases acE r f e with ⟨c,a,b,d⟩|⟨c,a,b,d⟩
 .refine ob d ?_;rw[c];rfl
 .refine ob d ?_;rw[c,afQ _ e];cases @decide _ (Classical.propDecidable _)<;>rfl
def YY(r:n7)(a:r.1.length<=1000)(b:r.2.1.length<=1000):∃c,fL (r,())=aa (c,())/\qn (r,())=aa (c,()):=by
 refine⟨_,afR r a b,?_⟩;unfold qn;rw[acF r a b];cases Oh r<;>rfl
structure amM (r:n7):Prop where
 ev:r.1.length<=5
 pw:r.2.1.length<=10
 calls:∀e∈r.1,zr e.2.1
def acG(r:n7):∃b,Cr (r,())=aa (b,())/\(b=true->r.2.1.length<=10):=by
 rcases rA (f:=tc (r,())) r.1 20 (λi=>((false,i,()),())) (λ_ e=>decide (100<e.2.2.2.2.2.1.2.1.length)||decide (16384<e.2.2.2.2.2.1.2.2.2.1.length)) (λi e=>(1,(false,i,()),())) (λn=>_) ah (λi e a d g j=>by
  unfold tc;dsimp only;rw[al d,aH ah,ao a,ab,ab,eF (c:=100) rfl,eF (c:=16384) rfl,j];by_cases k:100<e.2.2.2.2.2.1.2.1.length<;>by_cases l:16384<e.2.2.2.2.2.1.2.2.2.1.length<;>simp[ak,nt,ae,k,l]) (by
  unfold tc;rw[pK (c:=20) rfl,ag]) with ⟨i,e,d,a,m,_,h⟩|⟨o,h⟩
 .exact⟨false,ob h rfl,λq=>by cases q⟩
 .refine⟨_,ob h rfl,λq=>?_⟩;rw[ dZ (c:=10) rfl,nX] at q;exact fb (ac4.1 q).2
def acH(s:aU)(r:n7):∃b,Cs (s,r,())=aa (b,())/\(b=true->ahe s/\amM r):=by
 have a:=Wv;obtain⟨d,a⟩:∃d,∀c,ql (c,())=aa (d c,())/\(d c=true->zr c):=⟨λc=>Classical.choose _,λc=>Rm (a c)⟩;rcases rA (f:=td (s,r,())) r.1 5 (λi=>((false,i,()),())) (λ_ e=>!d e.2.1) _ (λn=>_) ah (λi e j g o p=>by
  unfold td;dsimp only;rw[al g,aH ah,ao j,ab,(a _).1,p];cases d e.2.1<;>rfl) (by
  unfold td;rw[pK (c:=5) rfl,ag]) with ⟨i,e,g,j,A,_,h⟩|⟨t,h⟩
 .exact⟨false,ob h rfl,λq=>by cases q⟩
 .obtain⟨u,k,v⟩:=abG s;obtain⟨x,m,y⟩:=acG r;cases u with
  | false=>exact⟨false,ob h (ob k rfl),λq=>by cases q⟩
  | true =>
    by_cases l:r.1.length<=5
    .cases x with
     | false=>exact⟨false,ob h (ob k<|by dsimp only;rw[dZ (c:=5) rfl,cU l,ai,ai,m];rfl),λq=>by cases q⟩
     | true =>
       refine⟨true,ob h (ob k<|by rw[dZ (c:=5) rfl,cU l,m];rfl),λ_=>⟨v rfl,l,y rfl,λe j=>?_⟩⟩;obtain⟨i,g⟩:=bc.1 j;have z:=av g;have:=t i e ah g;exact(a _).2 (by simpa using this)
    .exact⟨false,ob h (ob k<|by rw[dZ (c:=5) rfl,cd l];rfl),λq=>by cases q⟩
def ahe.n24{s}(h:ahe s)(b:BkS s):jr 40 s:=⟨h.base.m40.2,h.base.m40.1,by have:=h.lays;omega,by have:=h.akQ;omega,by have:=h.mts;omega,λx a=>⟨h.base.bn x a,(h.base.bm x a).2,(b.bl x a).1⟩,λx a=>⟨h.base.rZ x a,(h.base.im x a).2,(b.il x a).1⟩,λx a=>⟨h.base.ln x a,by have:=(h.ids x a).1;omega⟩⟩
def Hi s (r:n7) o (g:BkS s) (h:∀(i:Nat) e,r.1[i]?=aa e->e.2.2.1<=9223372036854775807):fS (s,r,o,())=aa (true,()):=by
 unfold fS;dsimp only;obtain⟨b,j,k⟩:=acH s r;rw[j,ab,eF (c:=20) rfl,show uX ()=aa _ from rfl,ab];cases b with
 | false=>rfl
 | true =>
   obtain⟨l,a⟩:=k rfl;by_cases f:20<o.length
   .rw[cU f];rfl
   obtain⟨c,m,n⟩:=YY r (by have:=a.ev;omega) (by have:=a.pw;omega);have d:=l.n24 g;rw[cd f,YU m a.ev a.pw a.calls ah d,ab,YV n a.ev a.pw a.calls (λe p=>by obtain⟨i,q⟩:=bc.1 p;exact h i e q) ah d,ab,
    abX,YH ((ajp a.calls ah d).slf ah)]
   rfl
end Go.Ge
namespace Go.Ge.W24
variable [Lp]
set_option maxRecDepth 100000
def cF:vE:=(14,3,[97],[],[],[],[],0,())
def cL:vE:=(1,0,[],[],[[97]],[],[],1,())
def evF(b n:Int):Hn:=(1,cF,b,n,1,okW w1,())
def evL(b n:Int):Hn:=(2,cL,b,n,1,okW w1,())
def r0:n7:=([evF 1 4,evL 2 3],[],())
def r1:n7:=([evF 1 5,evL 6 7],[],())
def tA(D N:Tx):aU:=([],[],[(w1,[],[[97]],D,1024,0,true,())],[N],[],())
def a0:A24 t0:=jr.a (by constructor<;>simp[t0])
def acd:zr cL:=⟨⟨aD,λx a=>by obtain rfl:=DR.1 a;decide⟩,aD,aD⟩
def doL:xO (t0,cL,())=aa (tA (SW<|WU 1024)<|WU 1024,okW w1,()):=by
 rw[afD a0 acd];show aa (crS t0 [] [[97]] [] 1)=_
 rfl
def amN D N:b0 39 ((r0,(tA D N,[false,true],0,[1],()),()),())=aa ((true,()),()):=by
 obtain rfl:‹Lp›=Lp.JQ:=Lp.one _ _;kernel_rfl
def amO D N:bZ 39 ((r0,(tA D N,[false,true],0,[1],()),()),[],())=aa ((true,()),[1,0],()):=by
 obtain rfl:‹Lp›=Lp.JQ:=Lp.one _ _;kernel_rfl
def ak4:lB (t0,r1,())=aa (false,0,()):=by
 obtain rfl:‹Lp›=Lp.JQ:=Lp.one _ _;kernel_rfl
def aip:fL (r0,())=aa (0,()):=by
 obtain rfl:‹Lp›=Lp.JQ:=Lp.one _ _;kernel_rfl
abbrev plT:aU×List Bool×Int×List Int×aj:=(tA (SW<|WU 1024)<|WU 1024,[false,true],0,[1],())
abbrev stA:n7×PlT×aj:=(r0,(t0,[false,false],0,[],()),())
section
variable {U:Type} (REC:((n7×PlT×aj)×U)->Option ((Bool×aj)×U)) (w w':U)
def ak5:ZI REC (stA,w) ((false,0,()),w)=aa (.inl ((false,1,()),w)):=by
 obtain rfl:‹Lp›=Lp.JQ:=Lp.one _ _;kernel_rfl
def step1(h:REC ((r0,plT,()),w)=aa ((true,()),w')):ZI REC (stA,w) ((false,1,()),w)=aa (.inr (1,(true,1,()),w')):=by
 show ak (aL 1<|len r0.1) (ae (H5 r0.1 r0.2.1 (t0,[false,false],0,[],()) 1 w) _) _=_
 rw[show aL 1 (len r0.1)=true from rfl,ai];refine ob (x:=((plT,true,()),w)) ?_ (ob h rfl);refine ob rfl (ob rfl (ob rfl (ob rfl ?_)));refine(show ak false _ (ak true (ak true (ak true (ak true _ _) _) _) _)=_ from ?_);rw[ag,ai,ai,ai,ai];refine ob rfl (ob rfl (ob rfl (ob (x:=((false,()),w)) ?_ ?_)))
 .obtain rfl:‹Lp›=Lp.JQ:=Lp.one _ _;kernel_rfl
 refine ob doL ?_;obtain rfl:‹Lp›=Lp.JQ:=Lp.one _ _;kernel_rfl
def root a b (h:REC ((r0,plT,()),w)=aa ((true,()),w')):XZ a b REC (stA,w)=aa ((true,()),w'):=by
 refine ob (x:=((true,()),w)) ?_ ?_
 .obtain rfl:‹Lp›=Lp.JQ:=Lp.one _ _;kernel_rfl
 refine(show ak false _ (XY REC (stA,w) w)=_ from ?_);rw[ag];refine ob (x:=_) rfl ?_;refine ob (x:=(1,(true,1,()),w')) ?_ rfl;rw[aN,ak5];show Loop _ _=_
 rw[aN,step1 REC w w' h];rfl
end
def ak6:lB (t0,r0,())=aa (true,0,()):=by
 refine ob aip ?_;refine ob (x:=((2,2,()),())) ?_ ?_
 .obtain rfl:‹Lp›=Lp.JQ:=Lp.one _ _;kernel_rfl
 exact ob (show fy (stA,())=aa ((true,()),()) from root (b0 39) () () (λ_ _=>aa (true,())) (λ_ w=>w) (amN _ _)) rfl
def ak7:tg (t0,r0,())=aa ([1,0],0,()):=by
 refine ob aip ?_;refine ob (x:=((2,2,()),())) ?_ ?_
 .obtain rfl:‹Lp›=Lp.JQ:=Lp.one _ _;kernel_rfl
 exact ob (show fx (stA,[],())=aa ((true,()),[1,0],()) from root (bZ 39) ([],()) ([1,0],()) (λ_ _=>aa (true,())) (λp _=>(p.2.2.2.1,())) (amO _ _)) rfl
end Go.Ge.W24
