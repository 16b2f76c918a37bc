import Derived.Test.YtgklgliokhbcnaaGreatDoorPlG
set_option linter.unusedSectionVars false
set_option linter.unusedVariables false
set_option linter.unusedSimpArgs false
set_option linter.defProp false
noncomputable section
open Option renaming some->aa,none->af
open Sum renaming inl->ay
namespace Go.Ge
variable [Lp]
set_option maxRecDepth 100000
def Lq s (h:qS s):kY (s,())=aa (iP s,()):=by
 unfold kY;rw[yB 3 _ h.adu];rfl
def OL:xy ()=aa (X8 1024,()):=by
 unfold xy;kernel_rfl
structure aiP (s:aO):Prop where
 bl:s.1.length<=1000000
 il:s.2.1.length<=1000000
 ll:s.2.2.1.length<=1000000
 dl:s.2.2.2.1.length<=1000000
 ml:s.2.2.2.2.1.length<=1000000
 xb:∀x∈s.1,mq x.2.1/\qQ x.2.2.2.2.2.1
 xi:∀x∈s.2.1,mq x.2.1/\qQ x.2.2.2.2.1
 xl:∀x∈s.2.2.1,mq x.2.2.1
def ZT{s}(h:aiP s):mP (s,s,())=aa (true,()):=by
 unfold mP;dsimp only;rw[ZQ _ h.bl h.xb];rw[ Xk _ h.il h.xi,Xl _ h.ll (λx a=>(h.xl x a).small),BS _ (by have:=h.dl;omega),Xm _ h.ml];rfl
end Go.Ge
namespace Go.Ge
variable [Lp]
def ZU(s:aO)(id:Tx)(c:s.2.2.2.2.1.length<=1000000):∃n,dq (s,id,())=aa (n,())/\((∃x∈s.2.2.2.2.1,x.1=id/\x.2.1=n)\/(n=0/\∀x∈s.2.2.2.2.1,x.1≠id)):=by
 unfold dq;rcases HY (f:=fJ (s,_)) s.2.2.2.2.1 (λy=>decide (y.1=id)) (λq=>(q,(),id,())) c (λi y a d=>by
  unfold fJ rz;rw[al d,ai,ao a,ab,ab,dz,di];by_cases q:y.1=id<;>simp[q]) (by unfold fJ;rw[aq,ag]) with ⟨i,y,a,e,b⟩|⟨hn,b⟩
 .rw[b,ab];dsimp only;rw[show cm 1 0=false from rfl,ag,aB ah,ag,ao a,ab]
  grind
 .rw[b,ab];rw[cV,ai]
  grind
def ZV{f:(Int×Int×aj)×Tx×aj->Option (((Int×Int×aj)×Tx×aj)⊕(Nat×(Int×Int×aj)×Tx×aj))}(l:List Aa) id (g:l.length<=1000000)
  (d:∀c i,f ((c,i,()),id,())=ak (aL i<|len l) (ae (idx l i) λy=>ak (bg y.2.2.2.1 id) (aa<|.inr (1,(i,i,()),id,())) (aa<|.inl ((c,aw .i64 i 1,()),id,()))) (aa<|.inr (0,(c,i,()),id,()))) :
  ae (Loop f ((0,0,()),id,())) (λe=>ak (cm e.1 0) (aa (false,())) (aa (cl 0 e.2.1.1,())))=aa (l.any<|λx=>decide (x.2.2.2.1=id),()):=by
 rcases HY (f:=f) l (λy=>decide (y.2.2.2.1=id)) (λq=>(q,_)) g (λi y a h=>by
  rw[d,al h,ai,ao a,ab,dz,di];by_cases q:y.2.2.2.1=id<;>simp[q]) (by rw[d,aq,ag]) with ⟨i,y,a,j,b⟩|⟨hn,b⟩
 .rw[b,ab,Xn a j];dsimp only;rw[show cm 1 0=false from rfl,ag,bA ah]
 .rw[b,Xo hn];rfl
def Xr(s:aO)(id:Tx)(l:s.1.length<=1000000)(m:s.2.1.length<=1000000)(n:s.2.2.1.length<=1000000):pW (s,id,())=aa (Fb s id,()):=by
 unfold pW Fb;have li:∀{f:_×Tx×aj->Option _},
   (∀c i,f ((c,i,()),_)=ak (aL i _) (ae (idx s.2.1 i) λy=>ak (bg y.2.2.1 id) (aa<|.inr (1,(i,i,()),id,())) (aa<|.inl ((c,aw .i64 i 1,()),id,()))) (aa<|.inr (0,(c,i,()),id,()))) ->
   (∃(i:Nat),s.2.1.any (λx=>decide (x.2.2.1=id))=true/\Loop f ((0,0,()),id,())=aa (1,((i:Int),(i:Int),()),id,()))\/(s.2.1.any (λx=>decide (x.2.2.1=id))=false/\Loop f ((0,0,()),id,())=aa (0,(0,(s.2.1.length:Int),()),id,())):=λ{f} h=>by
  rcases HY (f:=f) s.2.1 (λy=>decide (y.2.2.1=id)) (λq=>(q,id,())) m (λi y b g=>by
   rw[h,al g,ai,ao b,ab,dz,di];by_cases q:y.2.2.1=id<;>simp[q]) (by rw[h,aq,ag]) with ⟨i,y,b,j,d⟩|⟨hn,d⟩
  .grind
  .grind
 rcases HY (f:=ry (s,_)) s.2.2.1 (λy=>decide (y.2.1=id)) (λq=>(q,id,())) n (λi y b g=>by
  unfold ry;rw[al g,ai,ao b,ab,dz,di];by_cases q:y.2.1=id<;>simp[q]) (by unfold ry;rw[aq,ag]) with ⟨i,y,b,j,d⟩|⟨hn,d⟩
 .rw[d,ab,Xn b j];rw[show cm 1 0=false from rfl,ag,ab];rcases li (f:=wI (s,_)) (λc i=>rfl) with ⟨k,e,a⟩|⟨e,a⟩
  .rw[a,ab];rfl
  .rw[a];rfl
 .rw[d,ab,Xo hn];rw[cV,ai,ab];rcases li (f:=wI (s,_)) (λc i=>rfl) with ⟨k,e,a⟩|⟨e,a⟩
  .rw[a,e];rfl
  .rw[a,e];exact ZV s.1 id l (λc i=>rfl)
def u5(s:aO)(id:Tx):cA×Tx×Bool×aj:=match F9 s.2.2.1 id with
 | none=>(([],[],[],[],(0:Int),(0:Int),false,()),[],false,())
 | some i=>match s.2.2.1[i]? with
   | none=>(([],[],[],[],(0:Int),(0:Int),false,()),[],false,())
   | some x=>(x,(s.2.2.2.1[i]?).getD [],true,())
def ixL{f:(Int×Int×aj)×aj×Tx×aj->Option (((Int×Int×aj)×aj×Tx×aj)⊕(Nat×(Int×Int×aj)×aj×Tx×aj))} ls id (m:ls.length<=1000000)
  (d:∀c i,f ((c,i,()),(),id,())=ak (aL i<|len ls) (ae (idx ls i) λy=>ak (bg y.1 id) (aa<|.inr (1,(i,i,()),(),id,())) (aa<|.inl ((c,aw .i64 i 1,()),(),id,()))) (aa<|.inr (0,(c,i,()),(),id,()))) :
  ae (Loop f ((0,0,()),(),id,())) (λa=>ak (cm a.1 0) (aa (((-1:Int),()),(),a.2.2.2.1,())) (aa ((a.2.1.1,()),(),a.2.2.2.1,())))=aa ((EL ls id,()),(),id,()):=by
 rcases eE (f:=f) ls (λj=>((0,j,()),_)) (λ_ y=>decide (y.1=id)) (λi _=>(1,(i,i,()),(),id,())) _ ah (λi y b e g=>by
  rw[d,al e,ai,ao b,ab,dz,di,g];by_cases q:y.1=id<;>simp[q]) (by rw[d,aq,ag]) with ⟨i,y,b,k,l,h⟩|⟨hn,h⟩
 .rw[h];unfold EL;rw[Dy b (fy k) l];rfl
 .rw[h];unfold EL;rw[OC hn];rfl
def DB(s:aO)(id:Tx)(b:s.2.2.1.length<=100000)(hn:∀x∈s.2.2.1,x.2.2.1.length<=4294967296):kX (s,id,())=aa (u5 s id):=by
 unfold kX u5;rw[ixL s.2.2.1 id ah<|λc i=>rfl,ab];unfold EL;cases h:F9 s.2.2.1 id with
 | none=>rfl
 | some i =>
   obtain⟨x,a,_⟩:=BO h;dsimp only;rw[aB ah,ag,ao a,ab,a];rw[yA x.2.2.1<|hn x<|eG a,ab,Jo s ah,ab];rw[ao<|Ui<|av a,ab]
def Uk(s:aO)(id:Tx)(n:Int):aO:=(s.1,(s.2.1,(s.2.2.1,(s.2.2.2.1,((if 0<n then qu (·.1) (ZO (·.1) s.2.2.2.2.1 id) (id,n,()) else ZO (·.1) s.2.2.2.2.1 id),s.2.2.2.2.2)))))
def an2(l:List uX) id n (o:l.length<=100000) (k:∀x∈l,x.1≠id) {f}
  (d:∀c i,f ((c,i,()),id,())=ak (aL i<|len l) (ae (idx l i) λy=>ak (nt<|oor (fZ y.1 id)<|bg y.1 id) (aa<|.inr (1,(i,i,()),id,())) (aa<|.inl ((c,aw .i64 i 1,()),id,()))) (aa<|.inr (0,(c,i,()),id,()))) :
  ae (Loop f ((0,0,()),id,())) (λa=>ak (cm a.1 0) (ae (bJ (l,(((@len uX l,()),()).1).1,(a.2.2.1,n,()),())) λb=>aa ((b.1,()),a.2.2.1,()))
   (ae (bJ (l,((ak (aL a.2.1.1 0) ((@len uX l,()),()) ((a.2.1.1,()),())).1).1,(a.2.2.1,n,()),())) λb=>aa ((b.1,()),a.2.2.1,())))=aa ((qu (·.1) l (id,n,()),()),id,()):=by
 have g:∀x,x.1=id->bJ (l,((dv (λy=>y.1) l id:Nat):Int),x,())=aa (qu (·.1) l x,()):=by
  intro x m;unfold bJ;dsimp only;rw[cK ah];have:=uZ (λy=>y.1) l x ah;rw[m] at this;exact ob this rfl
 have h:=mX (f:=f) _ l id ah (λi=>((0,i,()),_)) _ _ (λi y j=>by
  have hi:=av j;rw[d,al hi,ao j,ab,Zg,aC ah];rcases HF y.1 id with q|q|q
  .rw[q,sy q];rfl
  .grind
  .rw[q,sy q];rfl) (by rw[d,aq,ag])
 have p:=mj (λy=>y.1) l id;rw[h,ab];by_cases q:dv (λy=>y.1) l id<l.length
 .rw[aQ q];refine ob (g _ rfl) rfl
 .rw[aK q];have e:(@len uX l)=((dv (λy=>y.1) l id:Nat):Int):=dR;rw[e];refine ob (g _ rfl) rfl
def DC(s:aO)(id:Tx) n (g:s.2.2.2.2.1.length<=50000):qH (s,id,n,())=aa (Uk s id n,()):=by
 obtain⟨D,E,F,G,a,u⟩:=s;dsimp only at g;have go:∀l:List uX,l.length<=100000->(∀x∈l,x.1≠id)->∀{f},
   (∀c i,f ((c,i,()),id,())=ak (aL i<|len l) (ae (idx l i) λy=>ak (nt<|oor (fZ y.1 id)<|bg y.1 id) (aa<|.inr (1,(i,i,()),id,())) (aa<|.inl ((c,aw .i64 i 1,()),id,()))) (aa<|.inr (0,(c,i,()),id,()))) ->
   ak (aL 0 n) (ae (Loop f ((0,0,()),id,())) λd=>ak (cm d.1 0) (ae (bJ (l,(((@len uX l,()),()).1).1,(d.2.2.1,n,()),())) λk=>aa ((k.1,()),d.2.2.1,()))
    (ae (bJ (l,((ak (aL d.2.1.1 0) ((@len uX l,()),()) ((d.2.1.1,()),())).1).1,(d.2.2.1,n,()),())) λk=>aa ((k.1,()),d.2.2.1,()))) (aa ((l,()),id,())) =
    aa (((if 0<n then qu (·.1) l (id,n,()) else l),()),id,()):=by
  intro l g b f H;by_cases q:0<n
  .rw[aH q,aQ q];exact an2 l id n g b H
  .rw[aB ah,ag,aK q]
 unfold qH Uk;dsimp only;rw[cK ah];rcases eE (f:=pX ((D,E,F,G,a,u),_)) a (λj=>((0,j,()),id,())) (λ_ y=>decide (y.1=id)) (λi _=>(1,(i,i,()),id,())) _ ah (λi y m o p=>by
  unfold pX;dsimp only;rw[al o,ai,aG ah dR,ai,ao m,ab,dz,di,p];by_cases q:y.1=id<;>simp[q]) (by unfold pX;rw[aq,ag]) with ⟨i,y,m,M,A,h⟩|⟨hn,h⟩
 rotate_left
 .have b:∀x∈a,x.1≠id:=λx e=>by
   obtain⟨i,o⟩:=bc.1 e
   grind
  rw[agA _ b];refine ob h ?_;exact ob (go a ah b λc i=>rfl) rfl
 have o:=av m;refine ob h ?_;have r:a.take i=(a.take<|i+1).filter (λx=>!decide (x.1=id)):=by
  rw[xX];have B:(a.take i).filter (λx=>!decide (x.1=id))=a.take i:=Mf.2 λz t=>by
   obtain⟨j,I⟩:=bc.1 t
   grind
  grind
 obtain⟨w,L,B,N,O,P⟩:=HV (f:=pY) a _ (λw j L=>((w,j,_),id,L,())) (λw L=>((w,L.length,_),id,L,())) ah (λw j L x e v Q A p J=>by
  unfold pY;dsimp only;obtain⟨z,t⟩:∃z,L[w]?=aa z:=⟨_,ft ah⟩;rw[al A,aG ah dR,ai,ao v,ab,dz,J];cases decide (x.1=id) with
  | true=>rfl
  | false =>
    rw[ aG ah dR,ao t,p];rfl) (λw L=>by
  unfold pY;rw[aq];rfl) a.length i _ a ah ah ah rfl r rfl
 rw[aC ah];refine ob B ?_;dsimp only;have C:L.take w=ZO (λx=>x.1) a id:=by
  unfold ZO
  grind
 have K:(ZO (λx=>x.1) a id).length<=a.length:=(Ma _ a id).length_le;rw[aM ah dR<|uh _,HW L w ah,aM (uh _) ah ah,Dj L w ah,C];exact ob (go (ZO (λx=>x.1) a id) ah (λx e=>((aiL _).1 e).2)
  (λc i=>by
   unfold AG;rw[Dj L w ah,C])) rfl
abbrev wy:=Int×Int×Tx×Tx×List Tx×Tx×Tx×Int×aj
def adx l v (g:l.length<=1000000):∃i,iE (l,v,())=aa (i,())/\cl 0 i=decide (v∈l):=by
 unfold iE;rcases eE (f:=gf (l,v,())) l (λi=>((0,i,()),())) (λ_ x=>decide (v=x)) (λi x=>(1,(i,i,()),())) _ ah (λi x a b c=>by
  unfold gf;rw[al b,ai,ao a,ab,di,c];by_cases h:v=x<;>simp[aD,h]) (by unfold gf;rw[aq,ag]) with ⟨i,x,a,d,j,h⟩|⟨hn,h⟩
 .refine⟨i,by rw[h];rfl,?_⟩;rw[bA ah,cW];rw[fy d];exact eG a
 .refine⟨-1,by rw[h];rfl,?_⟩;rw[cO ah,cf];intro e;obtain⟨i,b⟩:=bc.1 e;have:=hn i v b;simp at this
def BU l v (a:l.length<=1000000):dL (l,v,())=aa (decide<|v∈l,()):=by
 obtain⟨i,b,c⟩:=adx l v a;unfold dL;rw[b,ab,c]
def Qy(a:Int)(l:List Int):List Int:=if a∈l then [a] else []
def mm(c:wy):List Int :=
 if c.1=2\/c.1=11\/c.1=12 then [1,2,3] else if c.1=7 then [2,3] else if c.1=8 then [1,2] else
 if c.1=1\/c.1=3\/c.1=4\/c.1=5\/c.1=6 then [3] else if c.1=9\/c.1=10 then Qy c.2.1 [1,2] else
 if c.1=13\/c.1=14\/c.1=15 then Qy c.2.1 [1,2,3] else []
def aiQ a b:((ak a ((a,()),()) ((b,()),())).1).1=(a||b):=by cases a<;>rfl
def Xs(c:wy) l (a:l.length<=1000000):yq (c,l,())=aa (Qy c.2.1 l,()):=by
 unfold yq Qy;rw[BU l _ a];by_cases h:c.2.1∈l
 .rw[aQ h,cW h];rfl
 .rw[aK h,cf h];rfl
def R6(c:wy):qJ (c,())=aa (mm c,()):=by
 unfold qJ mm;simp only[aiQ];rw[Xs c [1,2] aT,Xs c [1,2,3] aT];simp only[di,aD,Mk,A6];repeat' (first|rfl|split)
def OM c:(mm c).length<=3:=by
 unfold mm Qy;repeat' (first|(simp;done)|split)
def fS(s:aO)(a:Tx)(h:qS s):e7 (s,a,())=aa (aU (iP s) a):=by
 unfold e7 kY;dsimp only;rw[yB 3 _ h.adu,ab,ab];exact ob (pj (iP s) a (Ee h) (by have:=Mb h;omega)) rfl
set_option maxRecDepth 100000
end Go.Ge
namespace Go.Ge
variable [Lp]
set_option maxRecDepth 100000
end Go.Ge
namespace Go.Ge
variable [Lp]
instance (s:Tx):Decidable (Dz s):=by unfold Dz;infer_instance
def ZW(s:Tx):hS (s,())=aa ((if Dz s then 0 else 10),()):=by
 obtain⟨a,b⟩:=L9 s;rw[adj a b];rfl
def Cd(s:aO)(p:Tx):List Nd×Int:=if p=[] then([],0) else nF s.2.2.1 s.2.2.2.1 p
def El{s p}(h:(Cd s p).2=0):Valid (Cd s p).1:=by
 unfold Cd at h⊢;by_cases q:p=[]
 .rw[aQ q];exact R1
 .rw[aK q] at h⊢;exact Gb h
def ON(d:Tx):Tx:=if d=[] then X8 1024 else d
def Xt(id a:Tx)(b:List Tx)(d:Tx):cA:=(id,a,b,TX<|ON d,((ON d).length:Int),0,true,())
def crS(s:aO)(b:Tx)(a:List Tx)(c:Tx)(d:Int):aO×ur×aj :=
 if fc a≠0 then(s,jQ<|fc a,()) else
 if c≠[]/\¬Dz c then(s,jQ 10,()) else
 if b≠[]/\(aU (iP s) b).2.1≠0 then(s,jQ (aU (iP s) b).2.1,()) else
 if qn (iP s) [] a≠0 then(s,jQ<|qn (iP s) [] a,()) else
 if(dJ (iP s) d).2.1≠0 then(s,jQ (dJ (iP s) d).2.1,()) else
 if j0 s b≠[]/\(dF s.2.2.1<|j0 s b).2=0/\16<=(dF s.2.2.1<|j0 s b).1.length then(s,jQ 5,()) else
 if c≠[]/\(Cd s<|j0 s b).2≠0 then(s,jQ (Cd s<|j0 s b).2,()) else
 if c≠[]/\(mW (Cd s<|j0 s b).1 c).2≠0 then(s,jQ (mW (Cd s<|j0 s b).1 c).2,()) else
 (Kr s (Xt (dJ (iP s) d).1 (j0 s b) a c)<|ON c,Fa (dJ (iP s) d).1,())
def Ce s (on:Tx) (given:List Tx) (a:Tx) d (h:qS s) (G:given.length<=4294967296) (y:a.length<=100000)
  (H:∀p,mQ (s,p,())=aa ((nF s.2.2.1 s.2.2.2.1 p).1,(nF s.2.2.1 s.2.2.2.1 p).2,())) :
  kg (s,on,given,a,d,())=aa (crS s on given a d):=by
 have I:=h.ll;have z:aD 0 0=true:=rfl;have es:bg ([]) ([])=true:=rfl;unfold kg;rw[wi given G,ab];unfold crS;by_cases m:fc given=0
 rotate_left
 .rw[aQ m];simp only[aE,ai,ab,ar m];rfl
 rw[aK<|λq=>q m,au m];rw[dz a []];have A:(ak (decide<|a=[]) (aa (((0:Int),()),a,()))<|ae (hS (a,())) λB=>aa ((B.1,()),a,()))=aa (((if a≠[]/\¬Dz a then 10 else 0),()),a,()):=by
  by_cases q:a=[]
  .rw[cW q,ai,aK λk=>k.1 q]
  .rw[cf q,ag,ZW,ab]
   grind
 rw[show(ak _ (aa _)<|ae (hS _) λB=>aa ((B.1,()),_))=_ from A,ab];by_cases n:a≠[]/\¬Dz a
 .rw[aQ n,aQ n];simp only[aE];rfl
 rw[aK n,aK n];simp only[aW,ag,z,dz on];have C:(ak (nt<|decide<|on=[]) (ae (eP (s,on,())) λe=>aa ((e.2.1,()),e.1,()))<|some (((0:Int),()),([]),())) =
   aa (((if on=[] then 0 else(aU (iP s) on).2.1),()),j0 s on,()):=by
  unfold j0;by_cases q:on=[]
  .rw[cW q,aW,ag,aQ q,aQ q]
  .rw[cf q,aE,ai,km s on h,ab,aK q,aK q]
 rw[show(ak (nt _) (ae (eP _) λe=>aa ((e.2.1,()),_))<|some ((0,()),_))=_ from C,ab];have c:(on≠[]/\(aU (iP s) on).2.1≠0)↔¬((if on=[] then 0 else(aU (iP s) on).2.1)=0):=by
  by_cases q:on=[]
  .simp
  .simp
 have j:(on≠[]/\(aU (iP s) on).2.1≠0)->(if on=[] then 0 else(aU (iP s) on).2.1)=(aU _ on).2.1:=λq=>aK q.1;by_cases l:(if on=[] then 0 else(aU (iP s) on).2.1)=0
 rotate_left
 .rw[aQ<|c.2 l];simp only[aE,ai,ab,ar l];rw[j<|c.2 l];rfl
 rw[aK<|λq=>c.1 q l,au l];simp only[aW,ag];rw[AU s h,ab,tY _ [] given (Ee h) G,ab];by_cases c3:qn (iP s) [] given=0
 rotate_left
 .rw[aQ c3];simp only[aE,ai,ab,ar c3];rfl
 rw[aK<|show ¬_ from λq=>q c3,au c3];simp only[aW,ag,ab];rw[Jf,ab];by_cases o:(dJ (iP s) d).2.1=0
 rotate_left
 .rw[aQ o];simp only[aE,ai,ab,ar o];rfl
 rw[aK<|show ¬_ from λq=>q o,au o];rw[ZS _ _ ah<|λx J=>(h.ln x J).small,ab];rw[dz _ []];have K:(ak (ak (ak (nt<|decide<|j0 s on=[]) (aD (dF s.2.2.1<|j0 s on).2 0) false) (cl 16<|len (dF s.2.2.1<|j0 s on).1) false) (aa (((5:Int),()),j0 s on,s,()))<|some (((0:Int),()),j0 s on,s,())) =
   aa (((if j0 s on≠[]/\(dF s.2.2.1<|j0 s on).2=0/\16<=(dF s.2.2.1<|j0 s on).1.length then 5 else 0),()),j0 s on,s,()):=by
  have E:cl 16 (len (dF s.2.2.1<|j0 s on).1)=decide (16<=(dF s.2.2.1<|j0 s on).1.length):=by unfold len;apply gG.2;omega
  rw[E,aa9];by_cases r:j0 s on=[]
  .rw[cW r,aW,ag,ag,ag,aK λq=>q.1 r]
  .rw[cf r,aE,ai];by_cases t:(dF s.2.2.1<|j0 s on).2=0
   .rw[cW t,ai];by_cases u:16<=(dF s.2.2.1<|j0 s on).1.length
    .rw[cW u,ai,aQ ⟨r,t,u⟩]
    .rw[cf u,ag,aK λq=>u q.2.2]
   .rw[cf t,ag,ag,aK λq=>t q.2.1]
 rw[show(ak (ak (ak (nt _) _ false) (cl 16 _) false) (aa (((5:Int),()),_))<|some ((0,()),_))=_ from K,ab];by_cases v:j0 s on≠[]/\(dF s.2.2.1<|j0 s on).2=0/\16<=(dF s.2.2.1<|j0 s on).1.length
 .rw[aQ v,aQ v];rfl
 rw[aK v,aK v];simp only[z,aW,ag];have F:jr (s,j0 s on,())=aa ((Cd s<|j0 s on).1,(Cd s<|j0 s on).2,()):=by
  unfold jr Cd;by_cases q:j0 s on=[]
  .rw[ch q,ai,aQ q]
  .rw[aY q,ag,aK q,H,ab]
 have fin:∀D,D.length<=100000->∀(f:_->Option (aO×ur×aj)),
   ae (oP (D,())) (λe=>ae (tw (s,((dJ (iP s) d).1,j0 s on,@app Tx [] given,e.1,@len UInt8 D,0,true,()),D,())) f) =
    f (Kr s ((dJ (iP s) d).1,j0 s on,given,TX D,(D.length:Int),(0:Int),true,()) D,()):=by
  intro D L f;refine ob (af5 D ah) ?_;refine ob (agE s ((dJ _ d).1,j0 s on,given,TX D,D.length,_) D ah) rfl
 have b:fits (plus (@len Tx []) _)=true:=aJ cR;by_cases g:a=[]
 .subst g;rw[es,ai];simp only[z,aW,ag,ab];rw[es,ai,agF,ab,ab];rw[b,fin _ (by rw[F4];decide)];rfl
 rw[aY g,ag,F,ab];by_cases i:(Cd s<|j0 s on).2=0
 rotate_left
 .rw[aQ ⟨g,i⟩,ar i,ag];simp only[ar i,aE,ai,ab];rfl
 rw[aK<|λq=>q.2 i,au i,ai,RS (El i)];by_cases w:(mW (Cd s<|j0 s on).1 a).2=0
 rotate_left
 .rw[aQ ⟨g,w⟩];simp only[ar w,aE,ai,ab];rfl
 rw[aK λq=>q.2 w];simp only[au w,aW,ag,ab];rw[aY g,ag,ab];rw[b,fin a y];unfold Xt ON;rw[aK g];rfl
def aiS{a:Type}(A B:List a) x y:(A++x::B).set A.length y=A++y::B:=by
 simp
def agG:∀k (A M B:List cA),M.length<=k->A.length+M.length+B.length<=1000000 ->
  ∃q,Loop fY (((A.length:Int),(A.length:Int)+(M.length:Int)-1,(),()),A++M++B,())=aa (q,A++M.reverse++B,()):=by
 intro k;induction k with
 | zero =>
   intro A M B d e;obtain rfl:M=[]:=zI.1 ah;apply Exists.intro;rw[aN,show fY _=aa _ from by
    unfold fY;dsimp only;rw[aB ah];rfl]
   rfl
 | succ k f =>
   intro A M B d e;by_cases c:M.length<=1
   .have g:M.reverse=M:=by
     match M,c with
     | [],_=>rfl
     | [a],_=>rfl
    rw[g];apply Exists.intro;rw[aN,show fY _=aa _ from by
     unfold fY;dsimp only;rw[aB ah];rfl]
    rfl
   .obtain⟨x,N,y,rfl⟩:∃x N y,M=x::(N++[y]):=by
     cases M with
     | nil=>simp at c
     | cons x t =>
       exact⟨x,t.dropLast,t.getLast (by rintro rfl;simp at c),by rw[ajb]⟩
    have h:A.length+((x::(N++[y])).length:Int)-1=((A.length+N.length+1:Nat):Int):=cR;rw[h];obtain⟨q,i⟩:=f (A++[y]) N (x::B) ah cR;refine⟨q,?_⟩;have j:A++x::(N++[y])++B=A++x::(N++y::B):=aT;have l:(A++x::(N++y::B)).length=A.length+N.length+B.length+2:=cR;have m:(A++x::(N++y::B))[A.length]?=aa x:=aT;have n:(A++x::(N++y::B))[A.length+N.length+1]?=aa y:=by
     rw[aeb ah,show A.length+N.length+1-A.length=N.length+1 by omega,ajk];simp
    have o:(A++y::(N++y::B))[A.length+N.length+1]?=aa y:=by
     rw[aeb ah,show A.length+N.length+1-A.length=N.length+1 by omega];simp
    have s2:(A++y::(N++y::B)).set (A.length+N.length+1) x=(A++[y])++N++(x::B):=by
     rw[ show A.length+N.length+1=(A++y::N).length by simp;omega];simp
    have b:fY ((A.length,((A.length+N.length+1:Nat):Int),(),()),(A++x::(N++y::B),())) =
      aa (.inl ((((A++[y]).length:Int),((A++[y]).length:Int)+N.length-1,(),()),(A++[y])++N++(x::B),())):=by
     unfold fY;dsimp only;rw[aH ah,aG ah dR,ai,ao n,ab,aG ah dR,ao m,ab,
      C6,(aiS A _ x y),aG ah (by unfold len;simp;omega),ao o,C6,s2,aC ah,du ah ah]
     rw[show _-1=((A++[y]).length:Int)+N.length-1 by simp;omega,show((A.length+1:Nat):Int)=((A++[y]).length:Int) by simp];rfl
    rw[j,aN,b];show Loop _ _=_
    rw[i];simp
def OO(s:aO)(id:Tx)(e:s.2.2.1.length<=100000)(d:∀x∈s.2.2.1,x.2.2.1.length<=4294967296):mQ (s,id,())=aa ((nF s.2.2.1 s.2.2.2.1 id).1,(nF s.2.2.1 s.2.2.2.1 id).2,()):=by
 unfold nF;obtain⟨r,t,u,h⟩:=Ks s.2.2.1 id ah d 16 id [] rfl;refine ob h ?_;unfold dF;by_cases c:(Lo s.2.2.1 16 id []).2=0
 rotate_left
 .rw[aK c,aK c];rw[show cm 0 0=true from rfl,ai,ar c,aE,ai]
 rw[aQ c,aQ c];have b:(Lo s.2.2.1 16 id []).1.length<=16:=(RX).2;generalize (Lo s.2.2.1 16 id []).1=L at b⊢;rw[show cm 1 0=false from rfl,ag];obtain⟨q,g⟩:=agG L.length [] L [] (b0 _) cR;rw[show cG IntKind.i64 _ 1=(([]:List cA).length:Int)+(L.length:Int)-1 from by rw[du dR dR];unfold len;simp];refine ob (by simpa using g) ?_;have k:=iv (f:=ru (s,id,()) (q,L.reverse,())) L.reverse (λl i=>(((),i,()),l,())) (λx=>[OF s.2.2.1 s.2.2.2.1 x.1]) _ (by rw[QN];omega)
  (λi x m n a=>by
   unfold ru;dsimp only;have o:((L.reverse.take i).flatMap λx=>[OF s.2.2.1 s.2.2.2.1 x.1]).length<=16:=by
    rw[<-List.map_eq_flatMap,zK,dw,QN];omega
   have hd:(u5 s x.1).2.1=OF s.2.2.1 s.2.2.2.1 x.1:=by
    unfold u5 OF;cases h:F9 s.2.2.1 x.1 with
    | none=>rfl
    | some j =>
      obtain⟨z,p,_⟩:=BO h;dsimp only;rw[p]
   rw[al n,ao m];refine(congrArg cr<|ob (DB s x.1 e d) rfl).trans ?_;rw[hd,aJ (by simp only[Sv];omega),a];rfl)
  (by
   unfold ru;rw[aq];rfl)
 refine ob k ?_;rw[show _=L.reverse.map _ from(List.map_eq_flatMap).symm];refine ob (aiH _<|by rw[zK,QN];omega) ?_;rfl
def Em{s}(h:qS s):Small (Ed s):=D9 1 _ h.akB
def Md{s}(h:qS s):(Ed s).length<=60:=fB (mw L1 _) h.bl
def Cf s (h:qS s):nU (s,())=aa (Ed s,()):=by
 unfold nU;rw[xG 1 _ h.akB];rfl
def OP s (ref:Tx) (h:qS s):xz (s,ref,())=aa (aU (Ed s) ref):=by
 unfold xz;rw[Cf s h,ab,nE _ _ (Em h) (by have:=Md h;omega),ab]
def Fc(s:aO)(x:Aa)(k:s.1.length<=1000000)(v:x.2.1.length<=4294967296)(g:x.2.2.2.2.2.1.length<=4294967296)(c:∀y∈s.1,y.1≠x.1) :
  kG (s,x,())=aa ((qu (·.1) s.1 x,s.2),()):=by
 obtain⟨b,d⟩:=s;obtain⟨a,l,m,n,o,p,u⟩:=x;dsimp only at k v g c;unfold kG;dsimp only;rw[cK ah,ai];rcases HY (f:=js ((b,d),_)) b (λy=>decide (y.1=a)) (λq=>(q,a,())) k (λi y h g=>by
  unfold js;dsimp only;rw[al g,ai,aG ah dR,ai,ao h,ab,dz,di];by_cases q:y.1=a<;>simp[q]) (by unfold js;rw[aq,ag]) with ⟨i,y,h,z,_⟩|⟨_,r⟩
 .exact absurd (fy z) (c y<|eG h)
 rw[r,ab];rw[cV,ai,sF _ v,ab,sG _ g,ab];have j:=mX (f:=tB ((b,d),(a,l,m,n,o,p,u),())) _ b a k (λi=>((0,i,()),(a,l,m,n,o,p,u),())) _
  _ (λi y h=>by
   have g:=av h;unfold tB;dsimp only;rw[al g,aG ah dR,ao h,ab,aC ah];cases fZ y.1 a<;>rfl) (by unfold tB;rw[aq,ag])
 rw[j,ab];have e:=uZ (·.1) b ((a,l,m,n,o,p,u):Aa) k;unfold cj;by_cases w:dv (λy=>y.1) b a<b.length
 .rw[aQ w];dsimp only;rw[show cm 1 0=false from rfl,ag,aB ah,ag];rw[show uI b _ [((a,_):Aa)]=_ from e,ab]
 .rw[aK w];have t:dv (λy=>y.1) b a=b.length:=by have:=mj (λy=>y.1) b a;omega
  rw[cV,ai];rw[bz,<-t,show uI b _ [((a,_):Aa)]=_ from e,ab]
def Cg(s:aO)(id:Tx):Tx:=((s.2.1.find?<|λx=>decide (x.1=id)).map λx:jZ=>x.2.2.1).getD []
def Gc(s:aO)(a:Tx):Tx:=if a=[] then [] else(aU (y7 s) a).1
def Xu(d:Int):Int:=hL IntKind.i64 d 16777215
def Fe(d:Int):Int:=hL IntKind.i64 (jT IntKind.i64 d 24) 16777215
def crB(s:aO)(a:Tx)(b:List Tx)(c:Tx)(d:Int):aO×ur×aj :=
 if fc b≠0\/64<c.length then(s,jQ 1,()) else
 if a≠[]/\(aU (y7 s) a).2.1≠0 then(s,jQ (aU (y7 s) a).2.1,()) else
 if qn (Ed s) [] b≠0 then(s,jQ<|qn (Ed s) [] b,()) else
 if(dJ (Ed s)<|Xu d).2.1≠0 then(s,jQ (dJ (Ed s)<|Xu d).2.1,()) else
 if(crG s (if a=[] then [] else Cg s (Gc s a)) []<|Fe d).2.1.1≠0 then(s,jQ (crG s (if a=[] then [] else Cg s (Gc s a)) []<|Fe d).2.1.1,()) else
 ((qu (·.1) s.1 ((dJ (Ed s)<|Xu d).1,b,Gc s a,(crG s (if a=[] then [] else Cg s (Gc s a)) []<|Fe d).2.1.2.1,c,[],()),(crG s (if a=[] then [] else Cg s (Gc s a)) []<|Fe d).1.2),
  (0,(dJ (Ed s)<|Xu d).1,0,(crG s (if a=[] then [] else Cg s (Gc s a)) []<|Fe d).2.1.2.1,()),())
def R7 s on given d:(crG s on given d).1.1=s.1:=by
 unfold crG;split
 .rfl
 split
 .rfl
 split
 .rfl
 split
 .rfl
 split
 .rfl
 rfl
def abt{s x}(a:x∈s.1):((x.1,x.2.1,()):Nm)∈Ed s:=by
 unfold Ed;rw[Sz];exact⟨x,a,by exact Ey.2 rfl⟩
def Ul{s y}(h:y∈Ed s):∃x∈s.1,y=(x.1,x.2.1,()):=by
 unfold Ed at h;rw[Sz] at h;obtain⟨x,b,a⟩:=h;unfold ofB at a
 grind
def abu(s:aO)(b:Tx)(a:List Tx)(d:Int):crS s b a [] d=crG s b a d:=by
 have c:ON []=X8 1024:=aQ rfl;have e:∀id p,Xt id p a []=akE id p a:=λid p=>by unfold Xt akE;rw[c,F4];rfl
 unfold crS crG;rw[c,e,aK (λk=>k.1 rfl:¬(([]:Tx)≠[]/\¬Dz [])),aK (λk=>k.1 rfl:¬(([]:Tx)≠[]/\(Cd s<|j0 s b).2≠0)),aK (λk=>k.1 rfl:¬(([]:Tx)≠[]/\(mW (Cd s<|j0 s b).1 []).2≠0))]
def Lr(s:aO)(a:Tx)(d:Int)(h:qS s):kg (s,a,[],[],d,())=aa (crG s a [] d):=by
 rw[Ce s a [] [] d h aT aT<|λp=>OO s p (by have:=h.ll;omega) λx b=>(h.ln x b).small,abu]
def Jp{a:Type}(b:a->Tx)(l:List a)(p:Tx):List a:=match l.findIdx? λx=>decide (b x=p) with|some i=>cutAt l i|none=>l
def OQ{α}(a:α->Tx){l p i x}(c:l[i]?=aa x)(d:a x=p)(e:∀j y,j<i->l[j]?=aa y->a y≠p):Jp a l p=cutAt l i:=by
 have h:l.findIdx? (λx=>decide (a x=p))=aa i:=by
  rw[Ya];obtain⟨f,rfl⟩:=iQ.1 c;exact⟨f,cW d,λj b=>by simpa using e j _ b (ft ah)⟩
 unfold Jp;rw[h]
def AX{α}(a:α->Tx){l p}(h:∀x∈l,a x≠p):Jp a l p=l:=by
 unfold Jp;rw[aai.2 λx b=>by simpa using h x b]
def Um(s:aO)(x:Aa)(A:s.1.length<=1000000)(o:x.2.1.length<=4294967296)(d:x.2.2.2.2.2.1.length<=4294967296)(e:∃y∈s.1,y.1=x.1) :
  kG (s,x,())=aa ((qu (·.1) (Jp (·.1) s.1 x.1) x,s.2),()):=by
 obtain⟨b,h⟩:=s;obtain⟨a,p,r,t,v,w,u⟩:=x;dsimp only at A o d e;unfold kG;dsimp only;rw[cK ah,ai];rcases eE (f:=js ((b,h),_)) b (λi=>((0,i,()),a,())) (λ_ y=>decide (y.1=a)) (λi _=>(1,(i,i,()),a,())) _ ah (λi y c d B=>by
  unfold js;dsimp only;rw[al d,ai,aG ah dR,ai,ao c,ab,dz,di,B];by_cases q:y.1=a<;>simp[q]) (by unfold js;rw[aq,ag]) with ⟨i,y,c,C,D,E⟩|⟨l,_⟩
 rotate_left
 .obtain⟨y,c,F⟩:=e;obtain⟨i,d⟩:=bc.1 c;have:=l i y d;simp[F] at this
 rw[OQ _ c (fy C) λj y m c=>xV (D j y m c)];rw[E,ab];dsimp only;rw[show cm 1 0=false from rfl,ag,bA ah,ai];unfold dA;rw[Ej b i (av c) ah,ab,ab,sF _ o,ab,sG _ d,ab];have G:=AW b i;have k:=mX (f:=tC (((),()),cutAt b i,())) _ (cutAt b i) a ah (λi=>((0,i,()),(a,p,r,t,v,w,u),())) _
  _ (λi y c=>by
   have d:=av c;unfold tC;dsimp only;rw[al d,aG ah dR,ao c,ab,aC ah];cases fZ y.1 a<;>rfl) (by unfold tC;rw[aq,ag])
 rw[k,ab];have g:=uZ (·.1) (cutAt b i) ((a,p,r,t,v,w,u):Aa) ah;unfold cj;by_cases z:dv (λy=>y.1) (cutAt b i) a<(cutAt b i).length
 .rw[aQ z];dsimp only;rw[show cm 1 0=false from rfl,ag,aB ah,ag];rw[show uI _ _ [((a,_):Aa)]=_ from g,ab]
 .rw[aK z];have n:dv (λy=>y.1) (cutAt b i) a=(cutAt b i).length:=by have:=mj (λy=>y.1) (cutAt b i) a;omega
  rw[cV,ai];rw[bz,<-n,show uI _ _ [((a,_):Aa)]=_ from g,ab]
def Qz(s:aO)(x:jZ)(E:s.2.1.length<=1000000)(B:x.2.1.length<=4294967296)(d:x.2.2.2.2.1.length<=4294967296)(e:∃y∈s.2.1,y.1=x.1) :
  gD (s,x,())=aa ((s.1,(qu (·.1) (Jp (·.1) s.2.1 x.1) x,s.2.2)),()):=by
 obtain⟨C,b,g⟩:=s;obtain⟨a,n,o,p,r,u⟩:=x;dsimp only at E B d e;unfold gD;dsimp only;rw[sF _ B,ab,sG _ d,ab];unfold dU;rw[ab,cK ah,ai];have l:∃(i:Nat) (y:jZ),b[i]?=aa y/\y.1=a/\(∀j y,j<i->b[j]?=aa y->y.1≠a)/\Loop (eZ ((C,b,g),(a,n,o,p,r,u),())) ((0,0,()),(),a,())=aa (1,((i:Int),(i:Int),()),(),a,()):=by
  rcases eE (f:=eZ ((C,b,g),_)) b (λi=>((0,i,()),(),a,())) (λ_ y=>decide (y.1=a)) (λi _=>(1,(i,i,()),(),a,())) _ ah (λi y c d F=>by
   unfold eZ dU;rw[al d,ai,ao c,ab,ab,dz,di,F];by_cases q:y.1=a<;>simp[q]) (by unfold eZ;rw[aq];rfl) with ⟨i,y,c,G,t,h⟩|⟨v,_⟩
  .exact⟨i,y,c,fy G,λj y w c=>xV (t j y w c),h⟩
  .obtain⟨y,c,z⟩:=e;obtain⟨i,d⟩:=bc.1 c;have:=v i y d;simp[z] at this
 obtain⟨i,y,c,z,t,H⟩:=l;rw[OQ _ c z t];rw[H,ab];dsimp only;rw[show cm 1 0=false from rfl,ag,bA ah,ai];unfold bt;rw[Ej b i (av c) ah,ab,ab];have I:=AW b i;have m:=mX (f:=rl (((),()),cutAt b i,())) _ (cutAt b i) a ah (λi=>((0,i,()),(),(a,n,o,p,r,u),())) _
  _ (λi y c=>by
   have d:=av c;unfold rl dU;dsimp only;rw[al d,aG ah dR,ao c,ab,ab,ab,aC ah];cases fZ y.1 a<;>rfl) (by unfold rl;rw[aq,ag])
 rw[m,ab];have k:=uZ (·.1) (cutAt b i) ((a,n,o,p,r,u):jZ) ah;unfold bS;by_cases D:dv (λy=>y.1) (cutAt b i) a<(cutAt b i).length
 .rw[aQ D];dsimp only;rw[show cm 1 0=false from rfl,ag,aB ah,ag];rw[show uI _ _ [((a,_):jZ)]=_ from k,ab]
 .rw[aK D];have A:dv (λy=>y.1) (cutAt b i) a=(cutAt b i).length:=by have:=mj (λy=>y.1) (cutAt b i) a;omega
  rw[cV,ai,aH aF,ai];rw[bz,<-A,show uI _ _ [((a,_):jZ)]=_ from k,ab]
def Ff(s:aO)(x:Aa)(b:s.1.length<=1000000)(c:x.2.1.length<=4294967296)(d:x.2.2.2.2.2.1.length<=4294967296):kG (s,x,())=aa ((qu (·.1) (Jp (·.1) s.1 x.1) x,s.2),()):=by
 by_cases h:∃y∈s.1,y.1=x.1
 .exact Um s x b c d h
 .have a:=λy f e=>h ⟨y,f,e⟩;rw[Fc s x b c d a,AX _ a]
def DD(s:aO)(x:jZ)(b:s.2.1.length<=1000000)(c:x.2.1.length<=4294967296)(d:x.2.2.2.2.1.length<=4294967296):gD (s,x,())=aa ((s.1,(qu (·.1) (Jp (·.1) s.2.1 x.1) x,s.2.2)),()):=by
 by_cases h:∃y∈s.2.1,y.1=x.1
 .exact Qz s x b c d h
 .have a:=λy f e=>h ⟨y,f,e⟩;rw[DA s x b c d a,AX _ a]
def Xv(s:aO)(id:Tx):aO:=match F9 s.2.2.1 id with
 | none=>Uk (s.1,s.2.1,s.2.2.1,yR s.2.2.1.length s.2.2.2.1,s.2.2.2.2) id 0
 | some i=>Uk (s.1,s.2.1,cutAt s.2.2.1 i,cutAt (yR s.2.2.1.length s.2.2.2.1) i,s.2.2.2.2) id 0
def Fg(s:aO)(id:Tx)(d:s.2.2.1.length<=100000)(a:s.2.2.2.2.1.length<=50000):kh (s,id,())=aa (Xv s id,()):=by
 unfold kh Xv;rw[ixL s.2.2.1 id ah<|λc i=>rfl,ab,Jo s ah,ab];unfold EL;cases h:F9 s.2.2.1 id with
 | none =>
   unfold iC gd;dsimp only;rw[aH ah,ai,ab,ai,ab];exact ob (DC _ id 0 a) rfl
 | some i =>
   obtain⟨x,b,_⟩:=BO h;have hi:=av b;have e:=qT s.2.2.1.length s.2.2.2.1;unfold iC gd gM eR;dsimp only;rw[aB ah,ag,ag,cK ah,ai,Ej _ i ah ah,ab,ab,cK ah,ai,Ej _ i ah ah,ab,ab];exact ob (DC _ id 0 a) rfl
def u6(s:aO)(id:Tx):Int:=match(dq (s,id,())) with|some (n,_)=>n|none=>0
def agH(s:aO)(id:Tx)(b:s.2.2.2.2.1.length<=1000000):dq (s,id,())=aa (u6 s id,())/\((∃x∈s.2.2.2.2.1,x.1=id/\x.2.1=u6 s id)\/(u6 s id=0/\∀x∈s.2.2.2.2.1,x.1≠id)):=by
 obtain⟨n,a,c⟩:=ZU s id b;have e:u6 s id=n:=by unfold u6;rw[a]
 rw[e];exact⟨a,c⟩
def dlS(s:aO)(a:Tx):aO×ur×aj :=
 if(aU (iP s) a).2.1≠0 then(s,jQ (aU (iP s) a).2.1,()) else
 if Fb s (aU (iP s) a).1=true\/0<u6 s (aU (iP s) a).1 then(s,jQ 7,()) else
 (Xv s (aU (iP s) a).1,Fa (aU (iP s) a).1,())
def H2 s (ref:Tx) (h:qS s) (a:s.2.2.2.2.1.length<=50000):wJ (s,ref,())=aa (dlS s ref):=by
 have b:=h.ll;have d:=h.il;have e:=h.bl;unfold dlS;refine ob (km s ref h) ?_;by_cases c:(aU (iP s) ref).2.1=0
 rotate_left
 .rw[ar c,aQ c];rfl
 rw[au c,aK λq=>q c];refine ob (Xr s _ ah ah ah) ?_;obtain⟨f,_⟩:=agH s (aU _ ref).1 ah;cases g:Fb s (aU _ ref).1 with
 | true =>
   rfl
 | false =>
   refine ob (ob f rfl) ?_;by_cases q:0<u6 s (aU (iP s) ref).1
   .rw[aH q,aQ (.inr q)];rfl
   .rw[aB ah,aK (by rintro(k|k);cases k;exact q k)];exact ob (Fg s _ ah a) rfl
def dfA(s:aO)(a:Tx):ur :=
 if(aU (iP s) a).2.1≠0 then jQ (aU (iP s) a).2.1 else(0,(aU (iP s) a).1,0,(u5 s (aU (iP s) a).1).2.1,())
def ZX(s:aO)(id:Tx):Tx:=((s.1.find?<|λx=>decide (x.1=id)).map λx:Aa=>x.2.2.2.1).getD []
abbrev Dl:=Int×bb×aj
def En:List Nd->List Nd->List Dl
 | [],[]=>[]
 | x::a,[]=>(3,x.1,())::En a []
 | [],y::b=>(1,y.1,())::En [] b
 | x::a,y::b =>
   if cmpL (key x) (key y)<0 then(3,x.1,())::En a (y::b)
   else if 0<cmpL (key x) (key y) then(1,y.1,())::En (x::a) b
   else(if x=y then [] else [(2,x.1,())])++En a b
 termination_by a b=>a.length+b.length
def aiT:∀n a b,a.length+b.length<=n->(En a b).length<=a.length+b.length:=by
 intro n;induction n with
 | zero =>
   intro a b h;obtain rfl:=zI.1 (show a.length=0 by omega);obtain rfl:=zI.1 (show b.length=0 by omega);simp[En]
 | succ n c =>
   intro a b h;cases a with
   | nil =>
     cases b with
     | nil=>simp[En]
     | cons y b =>
       rw[En]
       grind
   | cons x a =>
     cases b with
     | nil =>
       rw[En]
       grind
     | cons y b =>
       rw[En]
       grind
def H3{α}(x:α) r:sub (x::r) 1 (minus (len (x::r)) 1)=r:=jB _ 1 aT
def DE(a b:List Nd):Int:=match a,b with
 | [],_=>1
 | _::_,[]=>-1
 | x::_,y::_=>cmpL (key x) (key y)
def agI a b (d:wX a) (e:wX b) :
  (ae (ak (aD (len a) 0) (aa ((1,()),()))<|ae (ak (aD (len b) 0) (aa (((-1:Int),()),()))<|ae (idx a 0) λc=>ae (idx b 0) λf=>ae (hR (c.1,f.1,())) λg=>aa ((g.1,()),())) λc=>aa ((c.1.1,()),())) λy=>aa y)=aa ((DE a b,()),()):=by
 cases a with
 | nil=>rfl
 | cons x a =>
   cases b with
   | nil=>rfl
   | cons y b =>
     rw[ show idx _ 0=aa x from rfl,show idx _ 0=aa y from rfl,ab,ab,Dd _ _ (by have:=(d.2 x aT).1;omega) (by have:=(e.2 y aT).1;omega)];rfl
def OR(a b:List Nd):List Dl:=match a,b with
 | x::_,y::_=>if x=y then [] else [(2,x.1,())]
 | _,_=>[]
def ady a b:(OR a b).length<=1:=by
 unfold OR
 grind
def Un a b (acc:List Dl) (k:wX a) (l:wX b) (g:a≠[]\/b≠[]) (i:∀c:Dl,fits (plus (len acc)<|len [c])=true) :
  mF ((a,b,()),(),(),acc,())=aa (.inl<|
   if DE a b<0 then((a.drop 1,b,()),(),(),acc++(a.take 1).map (λx=>(3,x.1,())),())
   else if 0<DE a b then((a,b.drop 1,()),(),(),acc++(b.take 1).map (λy=>(1,y.1,())),())
   else((a.drop 1,b.drop 1,()),(),(),acc++OR a b,())):=by
 have m:ak (nt<|aL 0<|len a) (aL 0<|len b) true=true:=by
  rw[HB,HB];cases a with
  | cons x a=>simp[ak,nt]
  | nil =>
    cases b with
    | cons y b=>simp[ak]
    | nil=>simp at g
 have j:=agI a b k l;have n:∀o:Option ((Int×aj)×aj),ae o (aa)=o:=λo=>by cases o<;>rfl
 rw[n] at j;unfold mF;rw[m,j,ab];dsimp only;have d:∀{x:Nd} {r},inside 1 (len (x::r)) _=true:=λ{x r}=>aM ah (by unfold len;simp;omega) (uh _);by_cases f:DE a b<0
 .rw[aQ f,aH f,bA ah,cO f];cases a with
  | nil=>simp[DE] at f
  | cons x a =>
    rw[show idx _ 0=aa x from rfl,ab,i,d,H3];rfl
 .rw[aK f,aB ah,ag];by_cases h:0<DE a b
  .rw[aQ h,aH h,cO ah,bA ah];cases b with
   | nil=>cases a<;>simp[DE] at h g
   | cons y b =>
     rw[show idx _ 0=aa y from rfl,ab,i,d,H3];rfl
  .rw[aK h,aB ah,ag,bA ah,bA ah];cases a with
   | nil=>simp[DE] at h
   | cons x a =>
     cases b with
     | nil=>simp[DE] at f
     | cons y b =>
       have p:an (bg x.1 y.1) (an (aD x.2.1 y.2.1)<|an (aD x.2.2.1 y.2.2.1)<|an (bg x.2.2.2.1 y.2.2.2.1)<|an (bg x.2.2.2.2.1 y.2.2.2.2.1) true)=decide (x=y):=by
        unfold an bg aD
        grind
       rw[show idx _ 0=aa x from rfl,show idx _ 0=aa y from rfl,ab,ab,p,i,d,d,H3,H3];by_cases e:x=y
       .rw[cW e];unfold OR;dsimp only;rw[aQ e,uC];rfl
       .rw[cf e];unfold OR;dsimp only;rw[aK e];rfl
def agJ a b (c:a≠[]\/b≠[]):En a b =
  if DE a b<0 then(a.take 1).map (λx=>((3,x.1,()):Dl))++En (a.drop 1) b
  else if 0<DE a b then(b.take 1).map (λy=>((1,y.1,()):Dl))++En a (b.drop 1)
  else OR a b++En (a.drop 1) (b.drop 1):=by
 cases a with
 | nil =>
   cases b with
   | nil=>simp at c
   | cons y b=>rw[En];rfl
 | cons x a =>
   cases b with
   | nil=>rw[En];rfl
   | cons y b =>
     rw[En];show _=if cmpL _ _<0 then _ else if 0<cmpL _ _ then _ else _
     split
     .rfl
     .split
      .rfl
      .rfl
def wX.drop{l}(h:wX l) k:wX (l.drop k):=⟨by rw[rV];have:=h.1;omega,λx a=>h.2 x (QM a)⟩
def Uo:∀n a b (acc:List Dl),a.length+b.length<=n->wX a->wX b->acc.length+a.length+b.length<=100000 ->
  ∃s,Loop mF ((a,b,()),(),(),acc,())=aa (s,(),(),acc++En a b,()):=by
 intro n;induction n with
 | zero =>
   intro a b acc h _ _ _;obtain rfl:=zI.1 (show a.length=0 by omega);obtain rfl:=zI.1 (show b.length=0 by omega);refine⟨([],[],()),?_⟩;rw[aN,En,uC];rfl
 | succ n m =>
   intro a b acc h k l o;by_cases f:a≠[]\/b≠[]
   .have r:=Un a b acc k l f (λc=>aJ cR);rw[aN,agJ a b f];have g:a≠[]->(a.drop 1).length=a.length-1/\0<a.length:=λh=>⟨aT,UU.2 h⟩;have i:b≠[]->(b.drop 1).length=b.length-1/\0<b.length:=λh=>⟨aT,UU.2 h⟩;by_cases p:DE a b<0
    .have d:a≠[]:=λe=>by subst e;simp[DE] at p
     have:=g d;obtain⟨s,hs⟩:=m _ b (acc++(a.take 1).map λx=>(3,x.1,())) ah (k.drop 1) l (by simp at this⊢;omega)
     grind
    .by_cases q:0<DE a b
     .have j:b≠[]:=λe=>by subst e;cases a<;>simp[DE] at q f
      have:=i j;obtain⟨s,hs⟩:=m a _ (acc++(b.take 1).map λy=>(1,y.1,())) ah k (l.drop 1) (by simp at this⊢;omega)
      grind
     .have d:a≠[]:=λe=>by subst e;simp[DE] at q
      have t:=g d;have u:=i (λe=>by subst e;cases a<;>simp[DE] at p d);obtain⟨s,hs⟩:=m _ _ (acc++OR a b) ah (k.drop 1) (l.drop 1) (by
       have:=ady a b;rw[iU];omega)
      grind
   .grind
open Classical in
def QA(a b:List Nd):List Dl×Int:=if Valid a/\Valid b then(En a b,0) else([],1)
def Xw a b (c:wX a) (d:wX b):qZ (a,b,())=aa ((QA a b).1,(QA a b).2,()):=by
 obtain⟨e,l,i⟩:=mU a c;obtain⟨f,m,j⟩:=mU b d;unfold qZ;rw[l,m];simp only[ab];by_cases hv:Valid a/\Valid b
 .obtain rfl:=i.2 hv.1;obtain rfl:=j.2 hv.2;have h:=c.1;have g:=d.1;obtain⟨s,hs⟩:=Uo _ a b [] (b0 _) c d cR;rw[show ak _ _ _=aa false from rfl,ab,ag,hs,ab];unfold QA;rw[aQ hv,Mj]
 .have n:(ak (nt<|nt<|aD e 0) (aa<|nt<|aD f 0) (aa true):Option Bool)=aa true:=by
   by_cases k:e=0
   .by_cases g:f=0
    .exact absurd ⟨i.1 k,j.1 g⟩ hv
    .rw[show aD f 0=false by simp[aD,g]];cases nt _<;>rfl
   .rw[show aD e 0=false by simp[aD,k]];rfl
  rw[n,ab,ai];unfold QA;rw[aK hv]
def EM(l:List Dl)(c:Dl):List Dl:=l.takeWhile (λx=>decide (cmpL (parts x.2.1) (parts c.2.1)<0))++c::l.dropWhile (λx=>decide (cmpL (parts x.2.1) (parts c.2.1)<0))
def SmC(l:List Dl):Prop:=l.length<=100000/\∀x∈l,x.2.1.length<=4096
def OS l (c:Dl) (m:SmC l) (o:c.2.1.length<=4096):sr (l,c,())=aa (EM l c,()):=by
 have z:=m.1;have key:∃k,k<=l.length/\Loop (oW (l,c,())) ((0,()),())=aa (((k:Int),()),())/\EM l c=l.take k++[c]++l.drop k:=by
  rcases eE (f:=oW (l,c,())) l (λi=>((i,()),())) (λ_ x=>!decide _) _ _ ah (λi x b p q=>by
   unfold oW;dsimp only;rw[al p,ao b,ab,yG _ _ (m.2 x<|eG b) o,ab,q];unfold aL;cases decide (cmpL _ _<0)<;>rfl) (by
   unfold oW;rw[aq];rfl) with ⟨i,x,b,r,s,h⟩|⟨hn,h⟩
  .refine⟨i,by have:=av b;omega,h,?_⟩;obtain⟨e,g⟩:=takeWhile_eq (l:=l) (k:=i) (P:=λx=>decide _) (by have:=av b;omega) (λj y d a=>by
    have:=s j y d a;simpa using this) (λy a=>by
    rw[b] at a;obtain rfl:=aI a;simpa using r)
   unfold EM;rw[e,g];simp
  .refine⟨l.length,b0 _,h,?_⟩;obtain⟨e,g⟩:=takeWhile_eq (P:=λx=>decide _) (b0 _) (λj y d a=>by
    have:=hn j y a;simpa using this) (λy a=>by
    have:=av a;omega)
   unfold EM;rw[e,g];simp
 obtain⟨k,n,t,u⟩:=key;unfold sr;rw[t,ab];have v:inside 0 k _=true:=jC (pq _) n;have w:inside k (len l) _=true:=aM ah dR (uh _);rw[v,gl,jB l k n,w];rw[(aJ cR),(aJ<|by rw[ib];simp;omega),(aJ<|by rw[ib,ib];simp;omega),u];rfl
def Fh(k:Int):bb:=if 1<=k/\k<=3 then(if k=1 then [43] else if k=2 then [126] else [45]) else [63]
def wz(c:Dl):bb:=Fh c.1++[32]++wo c.2.1++[10]
def Jq k:(Fh k).length=1:=by
 unfold Fh
 grind
def Jr c:(wz c).length=2*c.2.1.length+3:=by
 unfold wz;simp only[iU,Jq,kK,iV,qv];omega
def Eo{a b:Type}(g:a->List b) k:∀l:List a,(∀x∈l,(g x).length<=k)->(l.flatMap g).length<=l.length*k:=by
 intro l;induction l with
 | nil=>simp
 | cons x r c =>
   intro h;have e:=h x aT;have f:=c λy d=>h y (by simp[d]);simp only[aen,iU,iV,iW];omega
def Xx{k}(a:1<=k)(b:k<=3):idx ([[],[43],[126],[45]]:List bb) k=aa (Fh k):=by
 have:k=1\/k=2\/k=3:=ah;rcases this with rfl|rfl|rfl<;>rfl
def adz(l:List Dl)(q:l.length<=4096)(j:∀c∈l,c.2.1.length<=4096):xk (l,())=aa (l.flatMap wz,()):=by
 unfold xk;have key:=iv (f:=nj (l,())) l (λh i=>((i,()),((),_),h,())) _ _ ah (λi x k n a=>by
  have b:((l.take i).flatMap λc=>ax (wz c)).length<=(l.take i).length*8200:=Eo _ _ _ λc o=>by
   have:=j c (Ex o);rw[T9,Jr];omega
  rw[dw] at b;have Yw:=j x (eG k);have p:=Jr x;have fin:∀s,s=Fh x.1->(ak (fits<|plus _<|len ([32]:bb)) (ae (mD (x.2.1,())) λd=>ak (fits<|plus (@len UInt8<|@app UInt8 s<|[32])<|@len UInt8 d.1)
   (ak (fits<|plus (@len UInt8<|@app UInt8 (@app UInt8 s ([(32:UInt8)]:bb)) d.1)<|@len UInt8<|[10])
   (ak (fits<|plus (@len Int<|(l.take i).flatMap λc=>ax (wz c))<|@len Int<|ax<|@app UInt8 (@app UInt8 (@app UInt8 s _) d.1) _)
   (aa (ay (((((i+1:Nat):Int)),()),((),(),()),@app Int ((l.take i).flatMap λc=>ax (wz c))<|ax<|@app UInt8 (@app UInt8 (@app UInt8 s _) d.1) _,()):_⊕((Nat×(Int×aj)×(aj×aj×aj)×(List<|Int)×aj))))
   af) af) af) af)=aa _:=λs e=>by
   subst e;have g:=Jq x.1;rw[aJ cR,TW _ ah,ab];rw[aJ<|by rw[ib,kK];simp;omega,aJ (by rw[ib,ib,iU,kK];simp;omega)];rw[show app (app (app _ [32]) _) [10]=wz x from rfl,aJ (by rw[T9];omega)];rfl
  unfold nj;rw[al n,ai,ao k,ab,a];by_cases g:1<=x.1
  .by_cases m:x.1<=3
   .rw[bA g,bA m,ai,ai,aG ah ah,ai,Xx g m,ab,ab];rw[fin _ rfl];rfl
   .rw[bA g,cO ah,ai,ag,ab];rw[fin _<|by unfold Fh;rw[aK ah]];rfl
  .rw[cO ah,ag,ag,ab];rw[fin _<|by unfold Fh;rw[aK ah]];rfl) (by
  unfold nj;rw[aq];rfl)
 rw[show Loop (nj _) _=_ from key,ab];have:l.flatMap (λc=>ax (wz c))=ax (l.flatMap wz):=by
  unfold ax;rw[List.map_flatMap]
 rw[this,nC]
def agK:∀a b,∀c∈En a b,(∃x∈a,c.2.1=x.1)\/∃x∈b,c.2.1=x.1:=by
 intro a b;induction a,b using En.induct<;>grind [En]
def R8{a b}(d:Valid a)(f:Valid b):(En a b).length<=4096/\∀c∈En a b,c.2.1.length<=4096:=by
 have h:=d.few;have i:=f.few;refine⟨by have:=aiT _ a b (b0 _);omega,λc g=>?_⟩;rcases agK a b c g with ⟨n,hn,e⟩|⟨n,hn,e⟩
 .rw[e];have:=((fR d).2 n hn).1;omega
 .rw[e];have:=((fR f).2 n hn).1;omega
def chA(s:aO)(a:Tx):ur :=
 if(aU (iP s) a).2.1≠0 then jQ (aU (iP s) a).2.1 else
 if(nF s.2.2.1 s.2.2.2.1 (aU (iP s) a).1).2≠0 then jQ (nF s.2.2.1 s.2.2.2.1 (aU (iP s) a).1).2 else
 if(Cd s (u5 s (aU (iP s) a).1).1.2.1).2≠0 then jQ (Cd s (u5 s (aU (iP s) a).1).1.2.1).2 else
 (0,(aU (iP s) a).1,0,(En (Cd s (u5 s (aU (iP s) a).1).1.2.1).1 (nF s.2.2.1 s.2.2.2.1 (aU (iP s) a).1).1).flatMap wz,())
def Gd k:∀(l:List Tx),(∀x∈l,x.length<=k)->(Lib.join l [32]).length<=l.length*(k+1)
 | [],_=>pq _
 | [a],h=>by have:=h a aT;simp[Lib.join];omega
 | a::b::r,h=>by
   have f:=h a aT;have c:=Gd k (b::r) λx d=>h x (by simp[d]);have e:Lib.join (a::b::r) [32]=a++[32]++Lib.join (b::r) [32]:=by simp[Lib.join]
   rw[e];simp only[iU,iV,qv,iW] at c⊢;omega
def agL(l:List Nm):Tx:=br (l.flatMap λx=>ax (Lib.join (x.1::x.2.1) [32]++[10]))
def wY{a:Type}(b:a->Tx)(l:List a)(d:a)(id:Tx):a:=(l.find? λx=>decide (b x=id)).getD d
def qS.akF{s}(h:qS s):TT (0,s.2.2.1,s.2.1,s.1,()):=⟨h.ll,h.ln,h.il,h.sH,h.bl,h.bn⟩
def xT(s:aO)(k:Int):List Nm:=ofV k (0,s.2.2.1,s.2.1,s.1,())
def Js s k:(k=1/\xT s k=Ed s)\/(k=2/\xT s k=y7 s)\/(k=3/\xT s k=iP s)\/xT s k=[]:=by
 unfold xT ofV Ed y7 iP;by_cases a:k=1
 .exact .inl ⟨a,by rw[aQ a]⟩
 by_cases b:k=2
 .exact .inr (.inl ⟨b,by rw[aK a,aQ b]⟩)
 by_cases c:k=3
 .exact .inr (.inr<|.inl ⟨c,by rw[aK a,aK b,aQ c]⟩)
 .exact .inr (.inr<|.inr<|by rw[aK a,aK b,aK c])
def Ep{s}(h:qS s) k:(xT s k).length<=60:=by
 rcases Js s k with ⟨_,e⟩|⟨_,e⟩|⟨_,e⟩|e<;>rw[e]
 .exact Md h
 .exact fB (mw HI _) h.il
 .exact Mb h
 .apply pq
def Er{s}(h:qS s) k:Small (xT s k):=D9 k _ h.akF
def Ku{s}(h:qS s) k:vC (s,k,())=aa (xT s k,()):=ob (xG k _ h.akF) rfl
def OT l p d:(n8 l p d).1.length<=l.length+1:=by
 unfold n8;have h:=aa8 l p;split
 .split
  .apply pq
  .unfold Jh;have e:=congrArg List.length (Cm (p:=λy=>fZ y.1 p) (l:=UH l p));simp only[iU,Sv] at e⊢;omega
 .apply pq
def GV:Aa:=([],[],[],[],[],[],())
def QB:jZ:=([],[],[],[],[],())
def itF(l:List Item)(c:wy)(id:Tx):Option (List Item)×ur :=
 if c.1=10 then(if(F3 l c.2.2.2.2.2.2.1).2≠0 then(af,jQ (F3 l c.2.2.2.2.2.2.1).2) else(af,0,id,0,(F3 l c.2.2.2.2.2.2.1).1,()))
 else(if(n8 l c.2.2.2.2.2.2.1 c.2.2.2.2.2.1).2≠0 then(af,jQ (n8 l c.2.2.2.2.2.2.1 c.2.2.2.2.2.1).2) else(aa (n8 l c.2.2.2.2.2.2.1 c.2.2.2.2.2.1).1,Fa id))
def OU{c}(a:c.1=9\/c.1=10)(h:c.2.1∈mm c):c.2.1=1\/c.2.1=2:=by
 unfold mm Qy at h;rw[aK ah,aK ah,aK ah,aK ah,aQ ah] at h;split at h
 .rename_i q;simpa using q
 .cases h
def ly0:cA:=([],[],[],[],(0:Int),(0:Int),false,())
def rnL(a:List cA)(id:Tx)(g:List Tx):List cA:=a.set ((F9 a id).getD 0) (id,((wY (·.1) a ly0 id).2.1,(g,(wY (·.1) a ly0 id).2.2.2)))
def rcE(s:aO)(c:wy):Int:=if(aU (xT s c.2.1) c.2.2.1).2.1=0/\c.1=13 then qn (xT s c.2.1) (aU (xT s c.2.1) c.2.2.1).1 c.2.2.2.2.1 else(aU (xT s c.2.1) c.2.2.1).2.1
def AY{s k ref}(h:(aU (xT s k) ref).2.1=0):(k=1/\∃x∈s.1,x.1=(aU (xT s k) ref).1)\/(k=2/\∃x∈s.2.1,x.1=(aU (xT s k) ref).1)\/(k=3/\∃x∈s.2.2.1,x.1=(aU (xT s k) ref).1):=by
 obtain⟨y,a,d⟩:=RZ h;rcases Js s k with ⟨b,e⟩|⟨b,e⟩|⟨b,e⟩|e<;>rw[e] at a
 .obtain⟨x,c,rfl⟩:=Ul a;exact .inl ⟨b,x,c,d⟩
 .obtain⟨x,c,rfl⟩:=abp a;exact .inr (.inl ⟨b,x,c,d⟩)
 .obtain⟨x,c,rfl⟩:=abq a;exact .inr (.inr ⟨b,x,c,d⟩)
 .cases a
set_option maxRecDepth 100000
def Kv(s:aO)(id:Tx)(b:s.2.2.1.length<=1000000):qI (s,id,())=aa (u5 s id):=by
 unfold qI u5;refine ob (Ga s id b) ?_;dsimp only;unfold EL;cases h:F9 s.2.2.1 id with
 | none=>rfl
 | some i =>
   obtain⟨x,a,_⟩:=BO h;dsimp only;rw[aB ah,ag,ao a,ab,a];exact ob (BP s i) rfl
end Go.Ge
namespace Go.Ge
variable [Lp]
set_option maxRecDepth 100000
end Go.Ge
namespace Go.Ge
variable [Lp]
structure uu (c:wy):Prop where
 nms:mq c.2.2.2.2.1
 data:c.2.2.2.2.2.1.length<=8704
 key:c.2.2.2.2.2.2.1.length<=100
def abv(a:List cA)(id:Tx)(g:List Tx):(rnL a id g).length=a.length:=by unfold rnL;rw[aet]
end Go.Ge
namespace Go.Ge.W24
variable [Lp]
set_option maxRecDepth 100000
abbrev an4:=Int×Tx×Int×Tx×aj
def w1:Tx:=[48,48,48,48,48,49]
def t0:aO:=([],[],[],[],[],())
def okW(id:Tx):an4:=(0,id,0,[],())
end Go.Ge.W24
namespace Go.Ge.W24
variable [Lp]
set_option maxRecDepth 100000
end Go.Ge.W24
namespace Go.Ge.W24
variable [Lp]
set_option maxRecDepth 100000
end Go.Ge.W24
namespace Go.Ge
variable [Lp]
def Xy(c:wy):∃b,qK (c,())=aa (b,())/\(b=true->uu c):=by
 obtain⟨b,e,f⟩:=TS c.2.2.2.2.1;unfold qK;rw[e,ej (c:=8704) rfl,ej (c:=100) (l:=c.2.2.2.2.2.2.1) rfl];generalize ak (cl _ 100) _ false=q;cases q
 .exact⟨false,rfl,λh=>by cases h⟩
 by_cases a:c.2.2.2.2.2.1.length<=8704
 .by_cases d:c.2.2.2.2.2.2.1.length<=100
  .refine⟨b,?_,λh=>⟨f h,a,d⟩⟩;rw[cW a,cW d];rfl
  .refine⟨false,?_,λh=>by cases h⟩;rw[cW a,cf d];rfl
 .refine⟨false,?_,λh=>by cases h⟩;rw[cf a];rfl
def AZ:qQ ([]:List Item):=⟨aT,λx a=>by cases a⟩
def akG{l p x}(h:x∈UH l p):x∈l:=by
 unfold UH at h
 grind
def ZY{l}(h:qQ l){p d}(e:p.length<=100)(a:(n8 l p d).2=0):qQ (n8 l p d).1:=by
 unfold n8 at a⊢;split at a
 rotate_left
 .cases a
 rename_i q;rw[aQ q];split at a
 .cases a
 rename_i b;rw[aK b];have f:=h.1;refine⟨?_,λx hx=>?_⟩
 .dsimp only;rw[agC];unfold UH;cases c:xJ l p with
  | none =>
    grind
  | some i =>
    have:=aiu c
    grind
 .rcases agB.1 hx with rfl|hx
  .grind
  .exact h.2 x (akG hx)
def Xz{l m:List Item}{c:wy}{id:Tx}(h:(itF l c id).1=aa m)(a:qQ l)(b:c.2.2.2.2.2.2.1.length<=100):qQ m:=by
 unfold itF at h;split at h
 .grind
 .split at h
  .cases h
  .rename_i q;obtain rfl:=aI h;exact ZY a b (Cn q)
def Up{α}{a:α->Tx}{l d id}:wY a l d id∈l\/wY a l d id=d:=by
 unfold wY;cases h:l.find? _ with
 | none=>exact .inr rfl
 | some y=>exact .inl (UM h)
def H4:mq []:=⟨aT,λx a=>by cases a⟩
def adA{α S R}{f:S->Option (S⊕R)} key l id (h:l.length<=1000000) (mk:List α->Int->S) fin
  (hs:∀r (i:Nat) y,l[i]?=aa y->r.length<=1000000->f (mk r i)=aa (.inl<|mk (if key y=id then r else r++[y])<|aw .i64 i 1))
  (b:f (mk (ZO key l id) (l.length:Int))=aa (.inr fin)):Loop f (mk [] 0)=aa fin:=by
 have e:∀m,m.flatMap (λy=>if key y=id then [] else [y])=ZO key m id:=λm=>by
  unfold ZO;induction m with
  | nil=>rfl
  | cons a r c =>
    rw[aen,c,aeq];by_cases q:key a=id
    .rw[aQ q,aK (by simp[q])];rfl
    .rw[aK q,aQ (by simp[q])];rfl
 refine iv l mk _ fin ah (λi x d j g=>?_) (by rw[e];exact b);rw[hs _ i x d<|by rw[e];exact fB (Ma key _ id).length_le (by rw[dw];omega),g];split<;>simp
def akH{α R}(l:List α) k x (a:k<=l.length) (b:l.length<=1000000) (F:List α->Option R) :
  ak (inside 0 k<|len l) (ak (fits<|plus (len ([]:List α))<|len<|sub l 0<|minus k 0) (ak (fits<|plus (len<|app ([]:List α)<|sub l 0<|minus (k:Int) 0)<|len [x]) (ak (inside k (len l)<|len l)
   (ak (fits<|plus (len<|app (app ([]:List α)<|sub l 0<|minus (k:Int) 0) [x])<|len<|sub l k<|minus (len l) k) (F<|app (app (app ([]:List α)<|sub l 0<|minus k 0) [x])<|sub l k<|minus (len l) k) af) af) af) af) af=F (uA l k x):=by
 rw[show inside 0 k _=true from aM ah ah dR,gl,jB l k a,show inside k (len l) _=true from jC a (b0 _)];simp only[ib];rw[aJ cR,aJ cR,aJ cR];rfl
def H5(s:aO)(id:Tx)(e:s.1.length<=1000000)(g:s.2.1.length<=1000000)(j:s.2.2.1.length<=1000000):tG (s,id,())=aa (Fb s id,()):=by
 unfold tG Fb;rcases eE (f:=rD (s,id,())) s.2.2.1 (λi=>((false,i,()),())) (λ_ y=>decide (y.2.1=id)) (λi _=>(1,(true,(i:Int),()),())) _ ah (λi y a b c=>by
  unfold rD;rw[al b,ai,ao a,ab,dz,di,c];by_cases q:y.2.1=id<;>simp[q]) (by unfold rD;rw[aq,ag]) with ⟨i,y,a,d,_,h⟩|⟨hn,h⟩
 .rw[h,ab,Xn a d];rfl
 rw[h,ab,Xo λy a=>by obtain⟨i,b⟩:=bc.1 a;exact hn i y b];dsimp only;rcases eE (f:=rE (s,id,())) s.2.1 (λi=>((false,i,()),())) (λ_ y=>decide (y.2.2.1=id)) (λi _=>(1,(true,(i:Int),()),())) _ ah (λi y a b c=>by
  unfold rE;rw[al b,ai,ao a,ab,dz,di,c];by_cases q:y.2.2.1=id<;>simp[q]) (by unfold rE;rw[aq,ag]) with ⟨i,y,a,d,_,h⟩|⟨hn,h⟩
 .rw[h,ab,Xn a d];rfl
 rw[h,ab,Xo λy a=>by obtain⟨i,b⟩:=bc.1 a;exact hn i y b];rcases eE (f:=rF (s,id,())) s.1 (λi=>((false,i,()),())) (λ_ y=>decide (y.2.2.2.1=id)) (λi _=>(1,(true,i,()),())) _ ah (λi y a b c=>by
  unfold rF;rw[al b,ai,ao a,ab,dz,di,c];by_cases q:y.2.2.2.1=id<;>simp[q]) (by unfold rF;rw[aq,ag]) with ⟨i,y,a,d,_,h⟩|⟨hn,h⟩
 .rw[h,Xn a d];rfl
 rw[h,Xo λy a=>by obtain⟨i,b⟩:=bc.1 a;exact hn i y b];rfl
def vK(s:aO)(id:Tx) n (d:s.2.2.2.2.1.length<=50000):nV (s,id,n,())=aa (Uk s id n,()):=by
 have b:=(Ma (λy=>y.1) s.2.2.2.2.1 id).length_le;unfold nV Uk;dsimp only;rw[adA _ s.2.2.2.2.1 id ah (λr i=>(((),i,()),r,())) _ (λr i y a b=>by
  unfold uP;rw[al<|av a,ao a,ab,dz,ab,show fits _=true from aJ cR];by_cases q:y.1=id
  .rw[cW q,aQ q];rfl
  .rw[cf q,aK q];rfl)<|by unfold uP;rw[aq];rfl,ab]
 generalize ZO _ s.2.2.2.2.1 id=l at b;by_cases q:0<n
 rotate_left
 .rw[bA ah,ai,aK q]
 rw[cO ah,aQ q];have c:=mj (λy=>y.1) l id;have h:=mX (f:=p6 (s,id,n,()) (((),s.2.2.2.2.1.length,()),l,())) _ l id ah (λi=>((i,()),())) _ _ (λi y a=>by
  have hi:=av a;unfold p6;dsimp only;rw[al hi,aG ah dR,ao a,ab,aC ah];cases fZ y.1 id<;>rfl) (by unfold p6;rw[aq];rfl)
 have e:(if dv (λy=>y.1) l id<l.length then((((dv (λy=>y.1) l id:Nat):Int),()),()) else((l.length,()),()))=((((dv (λy=>y.1) l id:Nat):Int),()),()):=by
  split
  .rfl
  .rw[show dv _ l id=l.length by omega]
 rw[h,e,Mc];exact akH l _ _ c ah (λm=>aa ((s.1,s.2.1,s.2.2.1,s.2.2.2.1,m,s.2.2.2.2.2),()))
def ltC(x y:Dl):Prop:=cmpL (parts x.2.1) (parts y.2.1)<0
instance an5 (x y:Dl):Decidable (ltC x y):=inferInstanceAs (Decidable<|cmpL (parts x.2.1) (parts y.2.1)<0)
def Gf(l:List Dl):Prop:=l.Pairwise ltC
def Gg x:¬ltC x x:=by unfold ltC;rw[kk];omega
def R9{x y z}(h:ltC x y)(g:ltC y z):ltC x z:=mT h g
def agO:∀{l m},Gf l->Gf m->(∀c,c∈l↔c∈m)->l=m:=by
 intro l;induction l with
 | nil =>
   intro m _ _ h;cases m with
   | nil=>rfl
   | cons d m=>exact absurd ((h d).2 aT) aT
 | cons c l k =>
   intro m b f h;cases m with
   | nil=>exact absurd ((h c).1 aT) aT
   | cons d m =>
     unfold Gf at b f;rw[Gq] at b f;have i:c=d:=by
      have a:c=d\/c∈m:=by simpa using(h c).1 aT
      have j:d=c\/d∈l:=by simpa using(h d).2 aT
      rcases a with e|a
      .exact e
      .rcases j with e|j
       .exact e.symm
       .exact absurd (R9 (b.1 d j)<|f.1 c a) (Gg c)
     subst i;rw[k b.2 f.2 λq=>?_];constructor
     .intro g;have:q=c\/q∈m:=by simpa using(h q).1 (by simp[g])
      rcases this with e|a
      .subst e;exact absurd (b.1 q g) (Gg q)
      .exact a
     .intro g;have:q=c\/q∈l:=by simpa using(h q).2 (by simp[g])
      rcases this with e|a
      .subst e;exact absurd (f.1 q g) (Gg q)
      .exact a
def Sa a r c:EM (a::r) c=if ltC a c then a::EM r c else c::a::r:=by
 unfold EM;by_cases h:cmpL (parts a.2.1) (parts c.2.1)<0
 .rw[aQ<|show ltC a c from h];simp[h]
 .rw[aK<|show ¬ltC a c from h];simp[h]
def H6{r n x}:x∈EM r n↔x=n\/x∈r:=by
 induction r with
 | nil=>simp[EM]
 | cons a r b =>
   rw[Sa];split
   .rw[fA,b,fA];constructor
    .rintro(h|h|h)
     .exact .inr (.inl h)
     .exact .inl h
     .exact .inr (.inr h)
    .rintro(h|h|h)
     .exact .inr (.inl h)
     .exact .inl h
     .exact .inr (.inr h)
   .rw[fA]
def OV{r n}(c:Gf r)(d:∀x∈r,x.2.1≠n.2.1):Gf (EM r n):=by
 unfold Gf at c⊢;induction r with
 | nil=>simp[EM]
 | cons a r g =>
   rw[Gq] at c;rw[Sa];split
   .rename_i h;refine Gq.2 ⟨λy b=>?_,g c.2 λx i=>d x (by simp[i])⟩;rcases H6.1 b with rfl|b
    .exact h
    .exact c.1 y b
   .rename_i h;have f:ltC n a:=by
     have j:cmpL (parts a.2.1) _≠0:=λe=>by
      have:=I6 e;exact d a aT (by rw[<-dV a.2.1,this,dV])
     have k:=NT (parts n.2.1) (parts a.2.1);unfold ltC at h⊢;omega
    refine Gq.2 ⟨λy b=>?_,Gq.2 c⟩;rcases fA.1 b with rfl|b
    .exact f
    .exact R9 f (c.1 y b)
def OW r n:(EM r n).length=r.length+1:=by
 unfold EM;rw[iU,iV,<-Fo,<-iU,Cm]
def IsC(a b:List Nd)(c:Dl):Prop :=
 (c.1=3/\∃x∈a,x.1=c.2.1/\∀y∈b,y.1≠x.1)\/(c.1=1/\∃y∈b,y.1=c.2.1/\∀x∈a,x.1≠y.1)\/(c.1=2/\∃x∈a,∃y∈b,x.1=y.1/\x≠y/\x.1=c.2.1)
def IsC.path{a b c}(h:IsC a b c):(∃x∈a,x.1=c.2.1)\/∃y∈b,y.1=c.2.1:=by
 rcases h with ⟨_,x,d,e,_⟩|⟨_,y,f,e,_⟩|⟨_,x,d,_,_,_,_,e⟩
 .exact .inl ⟨x,d,e⟩
 .exact .inr ⟨y,f,e⟩
 .exact .inl ⟨x,d,e⟩
def PO(l:List Nd):Prop:=l.Pairwise λx y=>cmpL (key x) (key y)<0
def BV{x y}(h:cmpL (key x) (key y)<0):x.1≠y.1:=λe=>by
 unfold key at h;rw[e,kk] at h;omega
def akI{x y}(a:¬cmpL (key x) (key y)<0)(b:¬0<cmpL (key x) (key y)):x.1=y.1:=by
 have:=I6 (show cmpL (key x) (key y)=0 by omega);unfold key at this;rw[<-dV x.1,this,dV]
def agP:∀n a b,a.length+b.length<=n->PO a->PO b->Gf (En a b)/\∀c,c∈En a b↔IsC a b c:=by
 have ahead:∀{a b k p r},Gf r->(∀c,c∈r↔IsC a b c)->(∀x∈a,cmpL (parts p) (key x)<0)->(∀y∈b,cmpL (parts p) (key y)<0)->Gf (((k,p,()):Dl)::r):=by
  intro a b k p r M N O P;refine Gq.2 ⟨λc v=>?_,M⟩;show cmpL _ _<0
  rcases((N c).1 v).path with ⟨x,Q,e⟩|⟨y,R,e⟩
  .rw[<-e];exact O x Q
  .rw[<-e];exact P y R
 intro n;induction n with
 | zero =>
   intro a b h _ _;obtain rfl:=zI.1 (show a.length=0 by omega);obtain rfl:=zI.1 (show b.length=0 by omega);rw[En];exact⟨List.Pairwise.nil,λc=>by simp[IsC]⟩
 | succ n B =>
   intro a b h H G;cases a with
   | nil =>
     cases b with
     | nil=>rw[En];exact⟨List.Pairwise.nil,λc=>by simp[IsC]⟩
     | cons y b =>
       have l:=Gq.1 G;obtain⟨w,q⟩:=B [] b (by simp at h⊢;omega) H l.2;rw[En];refine⟨ahead w q Cu l.1,λc=>?_⟩;rw[fA,q];obtain⟨S,T,u⟩:=c;simp only[IsC,fA,aas,false_and,exists_false,and_false,or_false,false_or,Prod.mk.injEq,forall_const,false_implies,implies_true,U7,exists_eq_or_imp];constructor
       .rintro(⟨rfl,rfl⟩|⟨rfl,g,d,rfl⟩)
        .exact⟨rfl,.inl rfl⟩
        .exact⟨rfl,.inr ⟨g,d,rfl⟩⟩
       .rintro⟨rfl,rfl|⟨g,d,rfl⟩⟩
        .exact .inl ⟨rfl,rfl⟩
        .exact .inr ⟨rfl,g,d,rfl⟩
   | cons x a =>
     have m:=Gq.1 H;cases b with
     | nil =>
       obtain⟨w,q⟩:=B a [] (by simp at h⊢;omega) m.2 G;rw[En];refine⟨ahead w q m.1 Cu,λc=>?_⟩;rw[fA,q];obtain⟨S,T,u⟩:=c;simp only[IsC,fA,aas,false_and,exists_false,and_false,or_false,Prod.mk.injEq,forall_const,false_implies,U7,exists_eq_or_imp];constructor
       .rintro(⟨rfl,rfl⟩|⟨rfl,g,d,rfl⟩)
        .exact⟨rfl,.inl rfl⟩
        .exact⟨rfl,.inr ⟨g,d,rfl⟩⟩
       .rintro⟨rfl,rfl|⟨g,d,rfl⟩⟩
        .exact .inl ⟨rfl,rfl⟩
        .exact .inr ⟨rfl,g,d,rfl⟩
     | cons y b =>
       have l:=Gq.1 G;rw[En];split
       .rename_i C;obtain⟨w,q⟩:=B a _ (by simp at h⊢;omega) m.2 G;have i:∀z∈y::b,cmpL _ _<0:=λz f=>by
         rcases fA.1 f with rfl|f
         .exact C
         .exact mT C (l.1 z f)
        refine⟨ahead w q m.1 i,λc=>?_⟩;rw[fA,q];constructor
        .rintro(rfl|v)
         .exact .inl ⟨rfl,x,aT,rfl,λz f=>(BV<|i z f).symm⟩
         .rcases v with ⟨k,j,yd,e,hn⟩|⟨k,g,d,e,hn⟩|⟨k,j,yd,g,d,o,s,t⟩
          .exact .inl ⟨k,j,by simp[yd],e,hn⟩
          .refine .inr (.inl ⟨k,g,d,e,λz f=>?_⟩);rcases fA.1 f with rfl|f
           .exact BV (i g d)
           .exact hn z f
          .exact .inr (.inr ⟨k,j,by simp[yd],g,d,o,s,t⟩)
        .rintro(⟨k,j,yd,e,hn⟩|⟨k,g,d,e,hn⟩|⟨k,j,yd,g,d,o,s,t⟩)
         .rcases fA.1 yd with rfl|yd
          .exact .inl (by rw[e,<-k])
          .exact .inr (.inl ⟨k,j,yd,e,hn⟩)
         .exact .inr (.inr<|.inl ⟨k,g,d,e,λz f=>hn z (by simp[f])⟩)
         .rcases fA.1 yd with rfl|yd
          .exact absurd o (BV<|i g d)
          .exact .inr (.inr<|.inr ⟨k,j,yd,g,d,o,s,t⟩)
       .rename_i I;split
        .rename_i U;obtain⟨w,q⟩:=B _ b (by simp at h⊢;omega) H l.2;have D:cmpL (key y) (key x)<0:=by have:=NT (key y) (key x);omega
         have i:∀z∈x::a,cmpL _ _<0:=λz f=>by
          rcases fA.1 f with rfl|f
          .exact D
          .exact mT D (m.1 z f)
         refine⟨ahead w q i l.1,λc=>?_⟩;rw[fA,q];constructor
         .rintro(rfl|v)
          .exact .inr (.inl ⟨rfl,y,aT,rfl,λz f=>(BV<|i z f).symm⟩)
          .rcases v with ⟨k,j,yd,e,hn⟩|⟨k,g,d,e,hn⟩|⟨k,j,yd,g,d,o,s,t⟩
           .refine .inl ⟨k,j,yd,e,λz f=>?_⟩;rcases fA.1 f with rfl|f
            .exact BV (i j yd)
            .exact hn z f
           .exact .inr (.inl ⟨k,g,by simp[d],e,hn⟩)
           .exact .inr (.inr ⟨k,j,yd,g,by simp[d],o,s,t⟩)
         .rintro(⟨k,j,yd,e,hn⟩|⟨k,g,d,e,hn⟩|⟨k,j,yd,g,d,o,s,t⟩)
          .exact .inr (.inl ⟨k,j,yd,e,λz f=>hn z (by simp[f])⟩)
          .rcases fA.1 d with rfl|d
           .exact .inl (by rw[e,<-k])
           .exact .inr (.inr<|.inl ⟨k,g,d,e,hn⟩)
          .rcases fA.1 d with rfl|d
           .exact absurd o.symm (BV<|i j yd)
           .exact .inr (.inr<|.inr ⟨k,j,yd,g,d,o,s,t⟩)
        .rename_i J;obtain⟨w,q⟩:=B a b (by simp at h⊢;omega) m.2 l.2;have A:=akI I J;have K:key x=key y:=by unfold key;rw[A]
         have E:=λz f=>BV (m.1 z f);have F:∀z∈b,x.1≠z.1:=λz f=>by rw[A];exact BV (l.1 z f)
         constructor
         .split
          .exact w
          .exact ahead w q m.1 (λz f=>by
           show cmpL (key x) _<0
           rw[K];exact l.1 z f)
         .intro c;rw[Pv,q];constructor
          .rintro(v|v)
           .split at v
            .cases v
            .rename_i L;obtain rfl:=Ey.1 v;exact .inr (.inr ⟨rfl,x,aT,y,aT,A,L,rfl⟩)
           .rcases v with ⟨k,j,yd,e,hn⟩|⟨k,g,d,e,hn⟩|⟨k,j,yd,g,d,o,s,t⟩
            .refine .inl ⟨k,j,by simp[yd],e,λz f=>?_⟩;rcases fA.1 f with rfl|f
             .rw[<-A];exact E j yd
             .exact hn z f
            .refine .inr (.inl ⟨k,g,by simp[d],e,λz f=>?_⟩);rcases fA.1 f with rfl|f
             .exact F g d
             .exact hn z f
            .exact .inr (.inr ⟨k,j,by simp[yd],g,by simp[d],o,s,t⟩)
          .rintro(⟨k,j,yd,e,hn⟩|⟨k,g,d,e,hn⟩|⟨k,j,yd,g,d,o,s,t⟩)
           .rcases fA.1 yd with rfl|yd
            .exact absurd A.symm (hn y aT)
            .exact .inr (.inl ⟨k,j,yd,e,λz f=>hn z (by simp[f])⟩)
           .rcases fA.1 d with rfl|d
            .exact absurd A (hn x aT)
            .exact .inr (.inr<|.inl ⟨k,g,d,e,λz f=>hn z (by simp[f])⟩)
           .rcases fA.1 yd with rfl|yd
            .rcases fA.1 d with rfl|d
             .left;rw[aK s,Ey,t,<-k]
             .exact absurd o (F g d)
            .rcases fA.1 d with rfl|d
             .exact absurd (A.trans o.symm) (E j yd)
             .exact .inr (.inr<|.inr ⟨k,j,yd,g,d,o,s,t⟩)
def ami(x y:Nd):an (bg x.1 y.1) (an (aD x.2.1 y.2.1)<|an (aD x.2.2.1 y.2.2.1)<|an (bg x.2.2.2.1 y.2.2.2.1)<|an (bg x.2.2.2.2.1 y.2.2.2.2.1) true)=decide (x=y):=by
 obtain⟨a,b,c,d,e,f⟩:=x;obtain⟨g,h,i,j,k,l⟩:=y;unfold an bg aD;simp
def QC(a b:List Nd)(c:Dl):Prop :=
 (c.1=3/\∃x∈a,x.1=c.2.1/\∀y∈b,y.1≠x.1)\/(c.1=2/\∃x∈a,∃y∈b,x.1=y.1/\x≠y/\x.1=c.2.1)
def QC.path{a b c}(h:QC a b c):∃x∈a,x.1=c.2.1:=by
 rcases h with ⟨_,x,d,e,_⟩|⟨_,x,d,_,_,_,_,e⟩<;>exact⟨x,d,e⟩
def adB{a b c}:IsC a b c↔QC a b c\/(c.1=1/\∃y∈b,y.1=c.2.1/\∀x∈a,x.1≠y.1):=by
 constructor
 .rintro(h|h|h)
  .exact .inl (.inl h)
  .exact .inr h
  .exact .inl (.inr h)
 .rintro((h|h)|h)
  .exact .inl h
  .exact .inr (.inr h)
  .exact .inr (.inl h)
def step1(b:List Nd)(t:List Dl)(x:Nd):List Dl:=if(findF b x.1).2.1=false then EM t (3,x.1,()) else if(findF b x.1).1=x then t else EM t (2,x.1,())
def step2(a:List Nd)(t:List Dl)(y:Nd):List Dl:=if(findF a y.1).2.1=false then EM t (1,y.1,()) else t
def Kw{l}(b:Ord l) p:((∀x∈l,x.1≠p)/\findF l p=(abg,false,()))\/∃x∈l,x.1=p/\findF l p=(x,true,()):=by
 by_cases h:∃x∈l,x.1=p
 .obtain⟨x,a,e⟩:=h;exact .inr ⟨x,a,e,BI b a e⟩
 .exact .inl ⟨λx a e=>h ⟨x,a,e⟩,F6 λx a e=>h ⟨x,a,e⟩⟩
def dI{a:Type}{l:List a}{i x z}(b:l[i]?=aa x):z∈l.take (i+1)↔z∈l.take i\/z=x:=by
 rw[xX,b];simp
def fresh{l}(c:Ord l){i x}(d:l[i]?=aa x):∀z∈l.take i,z.1≠x.1:=λz e=>by
 obtain⟨j,a⟩:=bc.1 e;rw[kn] at a;split at a
 .rename_i b;exact BV (c j i z x b a d)
 .cases a
def adC{a b}(w:Ord a)(q:Ord b){i x}(g:a[i]?=aa x){t}(A:Gf t)(u:∀c,c∈t↔QC (a.take i) b c) :
  Gf (step1 b t x)/\(step1 b t x).length<=t.length+1/\∀c,c∈step1 b t x↔QC (a.take<|i+1) b c:=by
 have r:∀c∈t,c.2.1≠x.1:=λc p e=>by
  obtain⟨z,d,D⟩:=((u c).1 p).path;exact fresh w g z d (by rw[D,e])
 have f:∀c,QC _ b c->QC _ b c:=λc p=>by
  rcases p with ⟨k,z,d,e,hn⟩|⟨k,z,d,y,h,j,n,o⟩
  .exact .inl ⟨k,z,(dI g).2 (.inl d),e,hn⟩
  .exact .inr ⟨k,z,(dI g).2 (.inl d),y,h,j,n,o⟩
 unfold step1;rcases Kw q x.1 with ⟨s,B⟩|⟨y,h,v,B⟩
 .rw[B,aQ rfl];refine⟨OV A r,by rw[OW];omega,λc=>?_⟩;rw[H6,u];constructor
  .rintro(rfl|p)
   .exact .inl ⟨rfl,x,(dI g).2 (.inr rfl),rfl,s⟩
   .exact f c p
  .rintro(⟨k,z,d,e,hn⟩|⟨k,z,d,y,h,j,n,o⟩)
   .rcases(dI g).1 d with d|rfl
    .exact .inr (.inl ⟨k,z,d,e,hn⟩)
    .exact .inl (by rw[e,<-k])
   .rcases(dI g).1 d with d|rfl
    .exact .inr (.inr ⟨k,z,d,y,h,j,n,o⟩)
    .exact absurd j.symm (s y h)
 .rw[B,aK aT];by_cases l:y=x
  .rw[aQ l];refine⟨A,ah,λc=>?_⟩;rw[u];refine⟨f c,?_⟩;rintro(⟨k,z,d,e,hn⟩|⟨k,z,d,C,m,j,n,o⟩)
   .rcases(dI g).1 d with d|rfl
    .exact .inl ⟨k,z,d,e,hn⟩
    .exact absurd v (hn y h)
   .rcases(dI g).1 d with d|rfl
    .exact .inr ⟨k,z,d,C,m,j,n,o⟩
    .exact absurd ((q.uniq h m<|by rw[v,j]).symm.trans l).symm n
  .rw[aK l];refine⟨OV A r,by rw[OW];omega,λc=>?_⟩;rw[H6,u];constructor
   .rintro(rfl|p)
    .exact .inr ⟨rfl,x,(dI g).2 (.inr rfl),y,h,v.symm,λe=>l e.symm,rfl⟩
    .exact f c p
   .rintro(⟨k,z,d,e,hn⟩|⟨k,z,d,C,m,j,n,o⟩)
    .rcases(dI g).1 d with d|rfl
     .exact .inr (.inl ⟨k,z,d,e,hn⟩)
     .exact absurd v (hn y h)
    .rcases(dI g).1 d with d|rfl
     .exact .inr (.inr ⟨k,z,d,C,m,j,n,o⟩)
     .exact .inl (by rw[o,<-k])
def ZZ(a b m:List Nd)(c:Dl):Prop:=QC a b c\/(c.1=1/\∃y∈m,y.1=c.2.1/\∀x∈a,x.1≠y.1)
def adD{a b}(m:Ord a)(n:Ord b){i y}(g:b[i]?=aa y){t}(s:Gf t)(o:∀c,c∈t↔ZZ a b (b.take i) c) :
  Gf (step2 a t y)/\(step2 a t y).length<=t.length+1/\∀c,c∈step2 a t y↔ZZ a b (b.take<|i+1) c:=by
 have f:∀c,ZZ a b _ c->ZZ a b _ c:=λc j=>by
  rcases j with h|⟨k,z,d,e,hn⟩
  .exact .inl h
  .exact .inr ⟨k,z,(dI g).2 (.inl d),e,hn⟩
 unfold step2;rcases Kw m y.1 with ⟨l,p⟩|⟨x,u,v,p⟩
 .rw[p,aQ rfl];have q:∀c∈t,c.2.1≠y.1:=λc j e=>by
   rcases(o c).1 j with h|⟨_,z,d,r,_⟩
   .obtain⟨z,d,r⟩:=h.path;exact l z d (by rw[r,e])
   .exact fresh n g z d (by rw[r,e])
  refine⟨OV s q,by rw[OW];omega,λc=>?_⟩;rw[H6,o];constructor
  .rintro(rfl|j)
   .exact .inr ⟨rfl,y,(dI g).2 (.inr rfl),rfl,l⟩
   .exact f c j
  .rintro(h|⟨k,z,d,e,hn⟩)
   .exact .inr (.inl h)
   .rcases(dI g).1 d with d|rfl
    .exact .inr (.inr ⟨k,z,d,e,hn⟩)
    .exact .inl (by rw[e,<-k])
 .rw[p,aK aT];refine⟨s,ah,λc=>?_⟩;rw[o];refine⟨f c,?_⟩;rintro(h|⟨k,z,d,e,hn⟩)
  .exact .inl h
  .rcases(dI g).1 d with d|rfl
   .exact .inr ⟨k,z,d,e,hn⟩
   .exact absurd v (hn x u)
def OX a b (p:wX a) (q:wX b):nk (a,b,())=aa ((QA a b).1,(QA a b).2,()):=by
 obtain⟨e,K,G⟩:=pg a p;obtain⟨f,L,H⟩:=pg b q;unfold nk;rw[K,L];simp only[ab];rw[show ak _ _ _=aa (!(e&&f)) by cases e<;>cases f<;>rfl,ab];by_cases hv:Valid a/\Valid b
 .obtain rfl:=G.2 hv.1;obtain rfl:=H.2 hv.2;have g:=hv.1.ord;have j:=hv.2.ord;have M:=p.1;have N:=q.1;have small:∀{t m},t.length<=10000->(∀c,c∈t->ZZ a b m c)->(∀y∈m,y∈b)->SmC t:=λ{t m} Y w hs=>⟨ah,λc r=>by
   rcases w c r with h|⟨_,z,l,e,_⟩
   .obtain⟨z,l,e⟩:=h.path;rw[<-e];have:=(p.2 z l).1;omega
   .rw[<-e];have:=(q.2 z<|hs z l).1;omega⟩
  obtain⟨t,O,P,_⟩:=qe (f:=mG (a,b,())) a (λt i=>((t,i,()),())) _ _ (λt i=>Gf t/\t.length<=i/\∀c,c∈t↔QC _ b c) ah (λt i x B C d D=>by
   obtain⟨s,I,n⟩:=D;obtain⟨E,Q,F⟩:=adC g j B s n;refine⟨?_,E,ah,F⟩;have Yw:=(p.at B).1;have v:SmC t:=small (m:=[]) ah (λc r=>.inl (by
    rcases(n c).1 r with ⟨k,z,l,e,hn⟩|⟨k,z,l,y,o,R,S,T⟩
    .exact .inl ⟨k,z,Ex l,e,hn⟩
    .exact .inr ⟨k,z,Ex l,y,o,R,S,T⟩)) Cu
   unfold mG step1;rw[al C,ao B,ab,Dv b x.1 q hv.2,d];simp only[ab];rw[ami,OS t _ v y5,OS t _ v y5];cases h:(findF b x.1).2.1 with
   | false=>rfl
   | true =>
     by_cases A:(findF b x.1).1=x
     .rw[cW A,aQ A];rfl
     .rw[cf A,aK A];rfl) (λt _=>by
   unfold mG;rw[aq];rfl) [] ⟨List.Pairwise.nil,aT,λc=>by simp[QC]⟩
  obtain⟨s,I,n⟩:=O;obtain⟨u,U,V,_⟩:=qe (f:=mH (a,b,())) b (λt i=>((t,i,()),())) _ _ (λt i=>Gf t/\t.length<=a.length+i/\∀c,c∈t↔ZZ a b _ c) ah (λt i y o C d D=>by
   obtain⟨s,I,n⟩:=D;obtain⟨E,Q,F⟩:=adD g j o s n;refine⟨?_,E,ah,F⟩;have W:=(q.at o).1;unfold mH step2;rw[al C,ao o,ab,Dv a y.1 p hv.1,d];simp only[ab];rw[OS t _ (small ah (λc r=>(n c).1 r) λy o=>Ex o) y5];cases h:(findF a y.1).2.1<;>rfl) (λt _=>by
   unfold mH;rw[aq];rfl) t ⟨s,ah,λc=>by rw[n];simp[ZZ]⟩
  obtain⟨X,Z,J⟩:=U;rw[zJ] at J;have w:=agP _ a b (b0 _) (AT.1 g) (AT.1 j);rw[show(!(true&&true))=false from rfl,ag,P,ab];rw[V,ab];unfold QA;rw[aQ hv,(agO X w.1 λc=>by rw[J,w.2,adB];rfl)]
 .have:(e&&f)=false:=by
   cases e with
   | false=>rfl
   | true =>
     cases f with
     | false=>rfl
     | true=>exact absurd ⟨G.1 rfl,H.1 rfl⟩ hv
  rw[this];unfold QA;rw[aK hv];rfl
def Uq(l:List Dl)(r:l.length<=4096)(j:∀c∈l,c.2.1.length<=4096):tj (l,())=aa (l.flatMap wz,()):=by
 unfold tj;have key:=iv (f:=ra (l,())) l (λd i=>((d,i,()),())) wz _ ah (λi x k n a=>by
  have b:((l.take i).flatMap wz).length<=(l.take i).length*8200:=Eo _ _ _ λc o=>by
   have:=j c (Ex o);rw[Jr];omega
  rw[dw] at b;have Yw:=j x (eG k);have s:=Jq x.1;unfold ra;rw[al n,ao k];simp only[ab,a];have hs:(ak (cl 1 x.1) (aa<|cl x.1 3) (aa false):Option Bool)=aa (decide<|1<=x.1/\x.1<=3):=by
   by_cases g:1<=x.1
   .by_cases m:x.1<=3
    .rw[bA g,bA m,cW ⟨g,m⟩];rfl
    .rw[bA g,cO ah,cf ah];rfl
   .rw[cO ah,cf ah];rfl
  rw[hs,ab];have p:(ak (decide<|1<=x.1/\x.1<=3) (ae (idx ([[],[43],[126],[45]]) x.1) λq=>aa ((q,()),())) (aa (([63],()),())):Option _)=aa ((Fh x.1,()),()):=by
   by_cases h:1<=x.1/\x.1<=3
   .rw[cW h,ai,Xx h.1 h.2,ab]
   .rw[cf h,ag];unfold Fh;rw[aK h]
  rw[p,ab];dsimp only;rw[N0 x.2.1 ah,ab];have e:app (app (app (app ((l.take i).flatMap wz)<|Fh x.1) [32])<|wo x.2.1) [10]=(l.take i).flatMap wz++wz x:=by
   unfold wz;simp only[ib,xW]
  rw[e];rw[aJ ah,aJ (by simp only[ib,iU,iV,qv];omega)];rw[aJ<|by simp only[ib,iU,iV,qv,kK];omega,ai,aJ (by simp only[ib,iU,iV,qv,kK];omega)];rfl) (by
  unfold ra;rw[aq];rfl)
 rw[show Loop _ _=_ from key,ab]
def X9{a:Type}(l:List a)(k i:Nat):List a:=if i<=k then l.take i else l.take k++(l.take i).drop (k+1)
def OY{α}{l:List α}{k i y}(a:l[i]?=aa y)(h:i≠k):X9 l k i++[y]=X9 l k (i+1):=by
 have hi:=av a;have e:l.take (i+1)=l.take i++[y]:=by rw[xX,a];rfl
 unfold X9;by_cases q:i<k
 .rw[aQ ah,aQ ah,e]
 .rw[aK ah,aK ah,e,abR (by rw[dw];omega),xW]
def OZ{α}{l:List α}{k}:X9 l k k=X9 l k (k+1):=by
 unfold X9;rw[aQ<|b0 _,aK ah,Gn (by rw[dw];omega),uC]
def Ur{α}{l:List α}{k i}:(X9 l k i).length<=l.length:=by
 unfold X9;split
 .rw[dw];omega
 .simp;omega
def Es{α}{l:List α}{k}:X9 l k l.length=if k<l.length then cutAt l k else l:=by
 unfold X9 cutAt;by_cases q:k<l.length
 .rw[aK ah,aQ q,zJ]
 .rw[aQ ah,aK q,zJ]
def Kx(s:aO)(id:Tx) b k (g:s.2.2.1.length<=1000000) (c:∀i,i<s.2.2.1.length->aD i b.1=decide (i=k)) :
  Loop (jt (s,id,()) b) (((),(),0,()),([]:List Tx),([]:List cA),())=aa (((),(),(s.2.2.1.length:Int),()),X9 (yR s.2.2.1.length s.2.2.2.1) k s.2.2.1.length,X9 s.2.2.1 k s.2.2.1.length,()):=by
 have key:=dc (f:=jt (s,id,()) b) s.2.2.1.length
  (λi=>(((),(),i,()),X9 (yR s.2.2.1.length s.2.2.2.1) k i,X9 s.2.2.1 k i,())) (λi a=>by
   have hx:=ft a;have h:=Ur (l:=s.2.2.1) (k:=k) (i:=i);have e:=Ur (l:=yR s.2.2.1.length s.2.2.2.1) (k:=k) (i:=i);rw[qT] at e;unfold jt;dsimp only;rw[al a,c i a,aC ah];by_cases q:i=k
   .rw[cW q];subst q;rw[<-OZ,<-OZ];rfl
   .rw[cf q,ao hx,ab,show fits _=true from aJ cR,BP,ab,
     show ∀d,fits (plus _<|@len Tx [d])=true from λd=>aJ cR,<-OY hx q,<-OY (Ui a) q]
    rfl) (by
   unfold jt;rw[aq];rfl)
 exact key
def Ch(s:aO)(id:Tx)(d:s.2.2.1.length<=100000)(b:s.2.2.2.2.1.length<=50000):nx (s,id,())=aa (Xv s id,()):=by
 unfold nx Xv;rw[Ga s id ah,ab];unfold EL;cases h:F9 s.2.2.1 id with
 | none =>
   have e:=Es (l:=yR s.2.2.1.length s.2.2.2.1) (k:=s.2.2.1.length);rw[qT,aK ah] at e;dsimp only;rw[Kx s id _ s.2.2.1.length ah<|λi a=>by rw[ar ah,cf ah],ab,e,Es,aK ah];exact ob (vK _ id 0 b) rfl
 | some i =>
   obtain⟨x,c,_⟩:=BO h;have a:=av c;have e:=Es (l:=yR s.2.2.1.length s.2.2.2.1) (k:=i);rw[qT,aQ a] at e;dsimp only;rw[Kx s id _ i ah<|λj f=>by exact gG.2 ah,ab,e,Es,aQ a];exact ob (vK _ id 0 b) rfl
def Ls e:bT (e,())=aa (jQ e,()):=rfl
def A0{α}(a:α->Tx){l d p}{i:Nat}{x}(c:l[i]?=aa x)(e:a x=p)(f:∀j y,j<i->l[j]?=aa y->a y≠p):wY a l d p=x:=by
 have h:l.find? (λx=>decide (a x=p))=aa x:=by
  rw[abQ];obtain⟨g,rfl⟩:=iQ.1 c;exact⟨cW e,i,g,rfl,λj b=>by simpa using f j _ b (ft ah)⟩
 unfold wY;rw[h];rfl
def O0{α}(a:α->Tx){l d p}(h:∀x∈l,a x≠p):wY a l d p=d:=by
 unfold wY;rw[UJ.2 λx b=>by simpa using h x b];rfl
def Pf{b:Type}(a:b->Tx)(l:List b)(id:Tx)(n:Int):Prop:=(∃(k:Nat) (x:b),l[k]?=aa x/\a x=id/\(∀j y,j<k->l[j]?=aa y->a y≠id)/\n=k)\/((∀x∈l,a x≠id)/\n=-1)
def Pf.wY{α}{a:α->Tx}{l id n}(h:Pf a l id n) d:∃b,ak (aL n 0) (aa (d,false,())) (ae (idx l n) λy=>aa (y,true,()))=aa (Go.Ge.wY a l d id,b,()):=by
 rcases h with ⟨k,x,c,e,f,rfl⟩|⟨hn,rfl⟩
 .refine⟨true,?_⟩;rw[aB ah,ag,ao c,ab,A0 a c e f]
 .refine⟨false,?_⟩;rw[O0 a hn];rfl
def abw{α f}(a:α->Tx) l (id:Tx) (t:l.length<=1000000)
  (g:∀c i,f ((c,i,()),())=ak (aL i<|len l) (ae (idx l i) λy=>ak (bg (a y) id) (aa<|.inr (1,(i,i,()),())) (aa<|.inl ((c,aw .i64 i 1,()),()))) (aa<|.inr (0,(c,i,()),()))) :
  ∃n,ae (Loop f ((0,0,()),())) (λk=>ak (cm k.1 0) (aa ((-1:Int),())) (aa (k.2.1.1,())))=aa (n,())/\Pf a l id n:=by
 rcases eE (f:=f) l (λi=>((0,i,()),())) (λ_ y=>decide (a y=id)) (λi _=>(1,(i,i,()),())) _ ah (λi y b d m=>by
  rw[g,al d,ai,ao b,ab,dz,di,m];by_cases q:a y=id<;>simp[q]) (by rw[g,aq,ag]) with ⟨i,y,b,o,p,h⟩|⟨hn,h⟩
 .refine⟨i,?_,.inl ⟨i,y,b,fy o,λj z e r=>xV (p j z e r),rfl⟩⟩;rw[h];rfl
 .refine⟨-1,?_,.inr ⟨λx s=>?_,rfl⟩⟩
  .rw[h];rfl
  .obtain⟨i,d⟩:=bc.1 s;exact xV (hn i x d)
def O1(s:aO)(id:Tx)(a:s.2.1.length<=1000000):∃n,xA (s,id,())=aa (n,())/\Pf (λx=>x.1) s.2.1 id n:=abw _ s.2.1 id a λc i=>rfl
def O2(s:aO)(id:Tx)(a:s.1.length<=1000000):∃n,xB (s,id,())=aa (n,())/\Pf (λx=>x.1) s.1 id n:=abw _ s.1 id a λc i=>rfl
def Jt(s:aO)(id:Tx)(a:s.2.1.length<=1000000):∃b,pc (s,id,())=aa (wY (·.1) s.2.1 QB id,b,()):=by
 obtain⟨n,h,c⟩:=O1 s id a;unfold pc;rw[h];exact c.wY QB
def Ju(s:aO)(id:Tx)(a:s.1.length<=1000000):∃b,sx (s,id,())=aa (wY (·.1) s.1 GV id,b,()):=by
 obtain⟨n,h,c⟩:=O2 s id a;unfold sx;rw[h];exact c.wY GV
def agQ{α S f} key l id n (hn:Pf key l id n) (g:l.length<=1000000) (mk:List α->Int->S)
  (hs:∀r (i:Nat) y,l[i]?=aa y->r.length<=1000000->f (mk r i)=aa (.inl<|mk (if i=n then r else r++[y])<|aw .i64 i 1))
  (c:∀r,f (mk r (l.length:Int))=aa (.inr<|mk r (l.length:Int))):Loop f (mk [] 0)=aa (mk (Jp key l id) (l.length:Int)):=by
 obtain⟨k,e,h⟩:∃k,(∀i,i<l.length->(i=n↔i=k))/\Jp key l id=X9 l k l.length:=by
  rcases hn with ⟨k,x,a,c,j,rfl⟩|⟨d,rfl⟩
  .exact⟨k,λi _=>ah,by rw[Es,aQ (av a),OQ key a c j]⟩
  .exact⟨l.length,λi b=>ah,by rw[Es,aK ah,AX key d]⟩
 rw[h];have key:=dc (r:=mk (X9 l k l.length) l.length) l.length (λi=>mk _ i) (λi b=>by
  have a:=ft b;rw[hs _ i _ a<|fB Ur g,aC ah];by_cases q:i=k
  .rw[aQ<|(e i b).2 q];subst q;rw[<-OZ]
  .rw[aK<|λz=>q ((e i b).1 z),OY a q]) (c _)
 exact key
def XA(s:aO)(id:Tx)(a:s.2.1.length<=1000000):ny (s,id,())=aa ((s.1,(Jp (·.1) s.2.1 id,s.2.2)),()):=by
 obtain⟨n,h,c⟩:=O1 s id a;unfold ny;rw[h,ab,agQ _ s.2.1 id n c a (λr i=>(((),i,()),r,())) (λr i y b d=>by
  unfold sb;rw[al<|av b,ao b,ab,show fits _=true from aJ cR];by_cases q:i=n
  .rw[au q,aQ q];rfl
  .rw[ar q,aK q];rfl) (λr=>by unfold sb;rw[aq];rfl),ab]
def XB(s:aO)(id:Tx)(a:s.1.length<=1000000):nz (s,id,())=aa ((Jp (·.1) s.1 id,s.2),()):=by
 obtain⟨n,h,c⟩:=O2 s id a;unfold nz;rw[h,ab,agQ _ s.1 id n c a (λr i=>(((),i,()),r,())) (λr i y b d=>by
  unfold sd;rw[al<|av b,ao b,ab,show fits _=true from aJ cR];by_cases q:i=n
  .rw[au q,aQ q];rfl
  .rw[ar q,aK q];rfl) (λr=>by unfold sd;rw[aq];rfl),ab]
def vL{α}(a:α->Tx) l p:(Jp a l p).length<=l.length:=by
 unfold Jp;split
 .apply AW
 .apply b0
def Jv(s:aO)(x:jZ)(d:s.2.1.length<=100000):sv (s,x,())=aa ((s.1,(qu (·.1) (Jp (·.1) s.2.1 x.1) x,s.2.2)),()):=by
 have b:=vL (λy=>y.1) s.2.1 x.1;unfold sv;rw[XA s x.1 ah,ab];generalize Jp _ s.2.1 x.1=l at b;have c:=mj (λy=>y.1) l x.1;have h:=mX (f:=tH (s,x,()) ((s.1,l,s.2.2),())) _ l x.1 ah (λi=>((i,()),())) _ _ (λi y a=>by
  have hi:=av a;unfold tH;rw[al hi,ao a,ab,aC ah];cases fZ y.1 x.1<;>rfl) (by unfold tH;rw[aq];rfl)
 have e:(if dv (λy=>y.1) l x.1<l.length then((((dv (λy=>y.1) l x.1:Nat):Int),()),()) else((l.length,()),()))=((((dv (λy=>y.1) l x.1:Nat):Int),()),()):=by
  split
  .rfl
  .rw[show dv _ l x.1=l.length by omega]
 rw[h,e,Mc];exact akH l _ x c ah (λm=>aa ((s.1,m,s.2.2),()))
def Jw(s:aO)(x:Aa)(d:s.1.length<=100000):sw (s,x,())=aa ((qu (·.1) (Jp (·.1) s.1 x.1) x,s.2),()):=by
 have b:=vL (λy=>y.1) s.1 x.1;unfold sw;rw[XB s x.1 ah,ab];generalize Jp _ s.1 x.1=l at b;have c:=mj (λy=>y.1) l x.1;have h:=mX (f:=tL (s,x,()) ((l,s.2),())) _ l x.1 ah (λi=>((i,()),())) _ _ (λi y a=>by
  have hi:=av a;unfold tL;rw[al hi,ao a,ab,aC ah];cases fZ y.1 x.1<;>rfl) (by unfold tL;rw[aq];rfl)
 have e:(if dv (λy=>y.1) l x.1<l.length then((((dv (λy=>y.1) l x.1:Nat):Int),()),()) else((l.length,()),()))=((((dv (λy=>y.1) l x.1:Nat):Int),()),()):=by
  split
  .rfl
  .rw[show dv _ l x.1=l.length by omega]
 rw[h,e,Mc];exact akH l _ x c ah (λm=>aa ((m,s.2),()))
def zA:ur:=(0,[],0,[],())
def zS:aO:=([],[],[],[],[],())
def A1{s}(h:qS s)(e:Tx){given}(o:mq given)(a:Tx) d (A:a.length<=100000):pa (s,e,given,a,d,())=aa (crS s e given a d):=by
 have L:=h.ll;have M:=Mb h;unfold pa crS;rw[pd given o.small (λx B=>by have:=o.2 x B;omega),ab];dsimp only;by_cases r:fc given=0
 rotate_left
 .rw[aQ r,ar r];rfl
 rw[aK<|λq=>q r,au r];have C:(ak (nt<|bg a []) (ae (nP (a,())) λN=>aa (nt<|aD N.1 0))<|some false)=aa (decide<|¬a=[]/\¬((Kq a).2=0/\jE (Kq a).1=true)):=by
  by_cases q:a=[]
  .rw[ch q,aW,ag,cf λk=>k.1 q]
  .rw[aY q,aE,ai,Dx];by_cases k:(Kq a).2=0/\jE (Kq a).1=true
   .rw[aQ k,cf λz=>z.2 k];rfl
   .rw[aK k,cW ⟨q,k⟩];rfl
 rw[C,ab];by_cases t:a≠[]/\¬Dz a
 .rw[aQ t,cW (show ¬a=[]/\¬((Kq a).2=0/\jE (Kq a).1=true) from t)];rfl
 rw[aK t,cf (show ¬(¬a=[]/\¬((Kq a).2=0/\jE (Kq a).1=true)) from t)];by_cases n:e≠[]/\(aU (iP s) e).2.1≠0
 .rw[aQ n,aY n.1,fS s e h,ab,ar n.2];rfl
 rw[aK n];have E:(ak (nt<|bg e []) (ae (e7 (s,e,())) λF=>ak (nt<|aD F.2.1 0) (ae (bT (F.2.1,())) λO=>aa (1,(([]),()),O.1,s,())) (aa (0,(F.1,()),zA,zS,())))
   (aa (0,(([]),()),zA,zS,())))=aa (0,(j0 s e,()),zA,zS,()):=by
  unfold j0;by_cases q:e=[]
  .rw[ch q,aW,ag,aQ q]
  .rw[aY q,fS s e h,ab,au (Cn λk=>n ⟨q,k⟩),aK q];rfl
 refine ob E ?_;rw[ Lq s h,ab];rw[xF _ [] given (Ee h) o.small (λx B=>by have:=o.2 x B;omega),ab];by_cases c3:qn (iP s) [] given=0
 rotate_left
 .rw[aQ c3,ar c3];rfl
 rw[aK<|λq=>q c3,au c3,ab];dsimp only;rw[BG _ _ ah,ab];by_cases u:(dJ (iP s) d).2.1=0
 rotate_left
 .rw[aQ u,ar u];rfl
 rw[aK<|λq=>q u,au u];generalize j0 s e=p;generalize (dJ _ d).1=id;have i:cl 16 (len (dF s.2.2.1 p).1)=decide (16<=(dF s.2.2.1 p).1.length):=by unfold len;apply gG.2;omega
 by_cases j:p≠[]/\(dF s.2.2.1 p).2=0/\16<=(dF s.2.2.1 p).1.length
 .rw[aQ j,aY j.1,Ec _ _ ah,ab];dsimp only;rw[au j.2.1,i,cW j.2.2];rfl
 rw[aK j];by_cases g:a≠[]/\(Cd s p).2≠0
 .have q:=λq=>g.2 (by unfold Cd;rw[aQ q]);have v:Cd s p=nF s.2.2.1 s.2.2.2.1 p:=by unfold Cd;rw[aK q]
  have G:ak (ak (aD (dF s.2.2.1 p).2 0) (cl 16<|len (dF s.2.2.1 p).1) false)=λ(x y:Option (Nat×(List Nd×aj)×ur×aO×aj))=>y:=by
   by_cases l:(dF s.2.2.1 p).2=0
   .rw[au l,i,cf λk=>j ⟨q,l,k⟩];rfl
   .rw[ar l];rfl
  rw[aQ g,aY q,Ec _ _ ah,ab];rw[show ak (ak _ _ false)=_ from G,aY g.1,BQ s p ah,ab];rw[v] at g⊢;rw[ar g.2];rfl
 rw[aK g];have H:∀(f:Nat×_×ur×aO×aj->Option (aO×ur×aj)),
   ae (ak (nt<|bg p []) (ae (nR (s.2.2.1,_)) λK=>ak (ak (aD K.2.1 0) (cl 16<|len K.1) false) (ae (bT (5,())) λc=>aa (1,(([]),()),c.1,s,()))
    (ae (ak (nt<|bg a []) (ae (mO _) λc=>ak (nt<|aD c.2.1 0) (ae (bT (c.2.1,())) λm=>aa (1,(([]),()),m.1,s,())) (aa (0,(c.1,()),zA,_)))<|some (0,(([]),()),zA,zS,())) λc =>
     ak (cm c.1 0) (aa (0,(c.2.1.1,()),c.2.2.1,c.2.2.2.1,())) (aa (1,(c.2.1.1,()),c.2.2.1,c.2.2.2.1,()))))<|some (0,_)) f =
   f (0,((if a=[] then [] else(Cd s p).1),()),zA,_):=λf=>by
  by_cases q:p=[]
  .rw[ch q,aW,ag,ab,show(if a=[] then [] else(Cd s p).1)=[] by unfold Cd;split<;>rfl]
  .have v:Cd s p=nF s.2.2.1 s.2.2.2.1 p:=by unfold Cd;rw[aK q]
   have G:ak (ak (aD (dF s.2.2.1 p).2 0) (cl 16<|len (dF s.2.2.1 p).1) false)=λ(x y:Option (Nat×(List Nd×aj)×ur×aO×aj))=>y:=by
    by_cases l:(dF s.2.2.1 p).2=0
    .rw[au l,i,cf λk=>j ⟨q,l,k⟩];rfl
    .rw[ar l];rfl
   rw[aY q,Ec _ _ ah,ab];rw[show ak _=_ from G];by_cases b:a=[]
   .rw[ch b,aQ b];rfl
   .rw[aY b,BQ s p ah,aK b,v,ab,au (Cn λk=>g ⟨b,by rw[v];exact k⟩)];rfl
 refine(H _).trans ?_;rw[cV,ai];have fin:∀D,D.length<=100000->ae (uJ _) (λm=>ae (tz (s,(id,p,given,m.1,len D,0,true,()),_)) λI=>aa (I.1,((0:Int),id,(0:Int),([]:Tx),()),())) =
   aa (Kr s (id,p,given,_) D,_):=λD P=>by
  rw[Rt D ah,ab];exact ob (Uj s _ D ah) rfl
 by_cases b:a=[]
 .rw[aK<|show ¬(a≠[]/\(mW (Cd s p).1 a).2≠0) from λk=>k.1 b,ch b,ai,OL,ab,ab];rw[cV,ai,show Xt id p given a=(id,p,given,_) by unfold Xt ON;rw[aQ b],show ON a=X8 1024 by unfold ON;rw[aQ b]];exact fin _ (by rw[F4];decide)
 .have J:(Cd s p).2=0:=Cn λk=>g ⟨b,k⟩;rw[aY b,ag,aK b,OE (El J) a,ab];by_cases w:(mW (Cd s p).1 a).2=0
  .rw[au w,aW,ag,ab,aK λk=>k.2 w];rw[ show Xt id p given a=(id,p,given,_) by unfold Xt ON;rw[aK b],show ON a=a by unfold ON;rw[aK b]];exact fin a A
  .rw[ar w,aQ ⟨b,w⟩];rfl
def Ci s (h:qS s):nW (s,())=aa (y7 s,()):=by
 unfold nW;rw[yB 2 _ h.akA];rfl
def Cj s (h:qS s):nX (s,())=aa (Ed s,()):=by
 unfold nX;rw[yB 1 _ h.akB];rfl
def yS s (ref:Tx) (h:qS s):tJ (s,ref,())=aa (aU (y7 s) ref):=by
 refine ob (Ci s h) ?_;exact ob (pj (y7 s) ref (Ef h) (by have:=Uf h;omega)) rfl
def O3 s (ref:Tx) (h:qS s):Bw (s,ref,())=aa (aU (Ed s) ref):=by
 refine ob (Cj s h) ?_;exact ob (pj (Ed s) ref (Em h) (by have:=Md h;omega)) rfl
def Sc s id:Cg s id=(wY (·.1) s.2.1 QB id).2.2.1:=by
 unfold Cg wY;cases s.2.1.find? _<;>rfl
def XC s id:ZX s id=(wY (·.1) s.1 GV id).2.2.2.1:=by
 unfold ZX wY;cases s.1.find? _<;>rfl
def Ck{s}(h:qS s) k:vD (s,k,())=aa (xT s k,()):=ob (yB k _ h.akF) rfl
def O4{k l}:k∈Qy k l↔k∈l:=by
 unfold Qy;by_cases q:k∈l
 .simp
 .simp
end Go.Ge
