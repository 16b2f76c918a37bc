import Derived.Test.YtgklgliokhbcnaaGreatDoorPlH
set_option linter.unusedSectionVars false
set_option linter.unusedVariables false
set_option linter.unusedSimpArgs false
set_option linter.defProp false
noncomputable section
open Option renaming some->aa,none->af
open Sum renaming inl->ay,inr->az
namespace Go.Ge
variable [Lp]
def adE{e:Type}{a:e->Tx}{l:List e}{id}{i k:Nat}{x y}(f:l[i]?=aa x)(g:a x=id)(h:∀j z,j<i->l[j]?=aa z->a z≠id)(b:l[k]?=aa y)(c:a y=id)(d:∀j z,j<k->l[j]?=aa z->a z≠id):x=y:=by
 rcases Mn i k with q|q|q
 .exact absurd g (d i x q f)
 .subst q;rw[f] at b;exact aI b
 .exact absurd c (h k y q b)
def mn(s:aO)(id:Tx)(C:s.2.2.2.2.1.length<=1000000):dq (s,id,())=aa (u6 s id,())/\fL (s,id,())=aa (u6 s id,()):=by
 have g:(∃(k:Nat) (x:uX),s.2.2.2.2.1[k]?=aa x/\x.1=id/\(∀j y,j<k->s.2.2.2.2.1[j]?=aa y->y.1≠id)/\dq (s,id,())=aa (x.2.1,()))\/((∀x∈s.2.2.2.2.1,x.1≠id)/\dq (s,id,())=aa (0,())):=by
  unfold dq;rcases eE (f:=fJ (s,_)) s.2.2.2.2.1 (λi=>((0,i,()),(),id,())) (λ_ y=>decide (y.1=id)) (λi _=>(1,(i,i,()),(),id,())) _ ah (λi y a b p=>by
   unfold fJ rz;rw[al b,ai,ao a,ab,ab,dz,di,p];by_cases q:y.1=id<;>simp[q]) (by unfold fJ;rw[aq,ag]) with ⟨i,y,a,g,r,h⟩|⟨hn,h⟩
  .refine .inl ⟨i,y,a,fy g,λj z c t=>xV (r j z c t),?_⟩;rw[h,ab];dsimp only;rw[show cm 1 0=false from rfl,ag,aB ah,ag,ao a,ab]
  .refine .inr ⟨λx d=>?_,?_⟩
   .obtain⟨i,b⟩:=bc.1 d;exact xV (hn i x b)
   .rw[h,ab];rfl
 have v:(∃(k:Nat) (x:uX),s.2.2.2.2.1[k]?=aa x/\x.1=id/\(∀j y,j<k->s.2.2.2.2.1[j]?=aa y->y.1≠id)/\fL (s,id,())=aa (x.2.1,()))\/((∀x∈s.2.2.2.2.1,x.1≠id)/\fL (s,id,())=aa (0,())):=by
  unfold fL;rcases eE (f:=ou (s,id,())) s.2.2.2.2.1 (λi=>((0,i,()),())) (λ_ y=>decide (y.1=id)) (λi y=>(1,(y.2.1,i,()),())) _ ah (λi y a b p=>by
   unfold ou;rw[al b,ai,ao a,ab,dz,di,ab,p];by_cases q:y.1=id<;>simp[q]) (by unfold ou;rw[aq,ag]) with ⟨i,y,a,g,r,h⟩|⟨hn,h⟩
  .refine .inl ⟨i,y,a,fy g,λj z c t=>xV (r j z c t),?_⟩;rw[h];rfl
  .refine .inr ⟨λx d=>?_,?_⟩
   .obtain⟨i,b⟩:=bc.1 d;exact xV (hn i x b)
   .rw[h];rfl
 have e:∀n,dq _=aa (n,())->u6 s id=n:=λn h=>by unfold u6;rw[h]
 rcases g with ⟨k,x,d,o,w,l⟩|⟨o,l⟩
 .rcases v with ⟨A,y,a,m,B,u⟩|⟨m,_⟩
  .obtain rfl:=adE d o w a m B;rw[e _ l];exact⟨l,u⟩
  .exact absurd o (m x<|eG d)
 .rcases v with ⟨A,y,a,m,_⟩|⟨_,u⟩
  .exact absurd m (o y<|eG a)
  .rw[e _ l];exact⟨l,u⟩
def ctA(s:aO)(a:Tx)(d:Int):aO×ur×aj :=
 if(aU (iP s) a).2.1≠0 then(s,jQ (aU (iP s) a).2.1,()) else
 if 0<d/\1000<=u6 s (aU (iP s) a).1 then(s,jQ 5,()) else
 if d<0/\u6 s (aU (iP s) a).1<1 then(s,jQ 11,()) else
 (Uk s (aU (iP s) a).1<|aw .i64 (u6 s (aU (iP s) a).1) d,(0,(aU (iP s) a).1,aw .i64 (u6 s (aU (iP s) a).1) d,[],()),())
def Ky{s}(h:qS s)(e:s.2.2.2.2.1.length<=50000)(a:Tx) d:pZ (s,a,d,())=aa (ctA s a d):=by
 obtain⟨f,_⟩:=mn s (aU _ a).1 ah;unfold ctA;refine ob (km s a h) ?_;by_cases c:(aU (iP s) a).2.1=0
 rotate_left
 .rw[ar c,aQ c];rfl
 rw[au c,aK λq=>q c];refine ob f ?_;have g:ak (aL 0 d) (cl 1000<|u6 s (aU (iP s) a).1) false=decide (0<d/\1000<=u6 s (aU (iP s) a).1):=by
  rw[ oC];exact(Bool.decide_and _ _).symm
 have i:ak (aL d 0) (aL (u6 s (aU (iP s) a).1) 1) false=decide (d<0/\u6 s (aU (iP s) a).1<1):=by
  rw[ oC];exact(Bool.decide_and _ _).symm
 rw[g,i];by_cases q:0<d/\1000<=u6 s (aU (iP s) a).1
 .rw[cW q,aQ q];rfl
 rw[cf q,aK q];by_cases b:d<0/\u6 s (aU (iP s) a).1<1
 .rw[cW b,aQ b];rfl
 rw[cf b,aK b];exact ob (DC s _ _ ah) rfl
def Lt{s}(h:qS s)(b:s.2.2.2.2.1.length<=50000)(a:Tx):z7 (s,a,())=aa (ctA s a 1):=by
 obtain⟨_,d⟩:=mn s (aU _ a).1 ah;unfold ctA;refine ob (fS s a h) ?_;by_cases c:(aU (iP s) a).2.1=0
 rotate_left
 .rw[ar c,aQ c];rfl
 rw[au c,aK λq=>q c];refine ob d ?_;by_cases q:1000<=u6 s (aU (iP s) a).1
 .rw[bA q,aQ ⟨aF,q⟩];rfl
 rw[cO ah,aK λk=>q k.2];exact ob (vK s _ _ ah) rfl
def H7{s}(h:qS s)(b:s.2.2.2.2.1.length<=50000)(a:Tx):wL (s,a,())=aa (ctA s a<|-1):=by
 obtain⟨_,d⟩:=mn s (aU _ a).1 ah;unfold ctA;refine ob (fS s a h) ?_;by_cases c:(aU (iP s) a).2.1=0
 rotate_left
 .rw[ar c,aQ c];rfl
 rw[au c,aK λq=>q c];refine ob d ?_;rw[aK λk=>absurd k.1 aF];by_cases q:u6 s (aU (iP s) a).1<1
 .rw[aH q,aQ ⟨aF,q⟩];rfl
 rw[aB ah,aK (λk=>q k.2),show ∀n,cG .i64 n 1=aw .i64 n (-1) from λn=>by unfold cG aw;rw[Int.sub_eq_add_neg]];exact ob (vK s _ _ ah) rfl
def adF(s:aO)(a:Tx):aO×ur×aj :=
 if(aU (y7 s) a).2.1≠0 then(s,jQ (aU (y7 s) a).2.1,()) else
 if ∃x∈s.1,x.2.2.1=(aU (y7 s) a).1 then(s,jQ 7,()) else
 ((s.1,(Jp (·.1) s.2.1 (aU (y7 s) a).1,s.2.2)),Fa (aU (y7 s) a).1,())
def Jx{s}(h:qS s)(a:Tx):tK (s,a,())=aa (adF s a):=by
 have k:=h.il;have l:=h.bl;unfold tK adF;rw[yS s a h,ab];by_cases b:(aU (y7 s) a).2.1=0
 rotate_left
 .rw[aQ b,ar b];rfl
 rw[aK<|λq=>q b,au b];generalize p:aU _ a=j;rcases eE (f:=ow (s,_) j) s.1 (λi=>((i,()),zA,zS,())) (λ_ y=>decide _) _ _ ah (λi y c d m=>by
  unfold ow;rw[al d,ai,ao c,ab,dz,di,m];by_cases q:y.2.2.1=j.1
  .rw[cW q];rfl
  .rw[cf q,aK aF,aK aF]) (by unfold ow;rw[aq,ag]) with ⟨i,y,c,n,_,g⟩|⟨hn,g⟩
 .refine ob g ?_;rw[aQ ⟨y,eG c,fy n⟩];rfl
 .refine ob g ?_;rw[aK (by
   rintro⟨x,o,e⟩;obtain⟨i,d⟩:=bc.1 o;exact xV (hn i x d) e)]
  rw[ XA s _ ah];rfl
def H8 s (ref:Tx) (h:qS s):rn (s,ref,())=aa (adF s ref):=by
 have m:=h.il;have n:=h.bl;unfold rn adF;dsimp only;rw[Cc s ref h,ab];by_cases d:(aU (y7 s) ref).2.1=0
 rotate_left
 .rw[aQ d,ar d];rfl
 rw[aK<|λq=>q d,au d];generalize (aU _ ref).1=id;rcases eE (f:=mL (s,_)) s.1 (λi=>((0,i,()),id,())) (λ_ y=>decide (y.2.2.1=id)) (λi _=>(1,(i,i,()),id,())) _ ah (λi y a b e=>by
  unfold mL;rw[al b,ai,ao a,ab,dz,di,e];by_cases q:y.2.2.1=id<;>simp[q]) (by unfold mL;rw[aq];rfl) with ⟨i,y,a,g,_,c⟩|⟨hn,c⟩
 .rw[c,aQ ⟨y,eG a,fy g⟩];rfl
 .rw[c,ab,aK (by
   rintro⟨y,a,k⟩;obtain⟨i,b⟩:=bc.1 a;have:=hn i y b;simp[k] at this)]
  rw[ cK ah];rcases eE (f:=mM (s,_)) s.2.1 (λi=>((0,i,()),(),id,())) (λ_ y=>decide (y.1=id)) (λi _=>(1,(i,i,()),(),id,())) _ ah (λi y a b e=>by
   unfold mM dU;rw[al b,ai,ao a,ab,ab,dz,di,e];by_cases q:y.1=id<;>simp[q]) (by unfold mM;rw[aq];rfl) with ⟨i,y,a,g,o,c⟩|⟨hn,c⟩
  .rw[c,ab,OQ _ a (fy g) λj z l p=>xV (o j z l p)];unfold bt;rw[Ej s.2.1 i (av a) ah];rfl
  .rw[c];rw[ AX _ λx r k=>by
    obtain⟨i,b⟩:=bc.1 r;have:=hn i x b;simp[k] at this]
   rfl
def yT s (id:Tx) (h:qS s):∃b,pU (s,id,())=aa (wY (·.1) s.2.1 QB id,b,()):=by
 unfold pU;rcases eE (f:=rp (s,id,())) s.2.1 (λi=>((false,i,()),(([]),_),())) (λ_ y=>decide _) _ _ (by have:=h.il;omega) (λi y a c k=>by
  have g:=eG a;unfold rp;rw[al c,ao a,ab,dz,k];by_cases q:y.1=id
  .rw[cW q,sF _ (h.sH y g).small,sG _ (by have:=(h.it y g).1;omega)];rfl
  .rw[cf q];rfl) (by unfold rp;rw[aq];rfl) with ⟨i,y,a,l,m,d⟩|⟨hn,d⟩
 .rw[d,A0 _ a (fy l) λj z e n=>xV (m j z e n)];exact⟨true,rfl⟩
 .rw[d,O0 _ λx o=>by
   obtain⟨i,c⟩:=bc.1 o;exact xV (hn i x c)]
  exact⟨false,rfl⟩
def Ag s (id:Tx) (h:qS s) (c:∀x∈s.1,qQ x.2.2.2.2.2.1):∃b,su (s,id,())=aa (wY (·.1) s.1 GV id,b,()):=by
 have l:=h.bl;unfold su;rcases eE (f:=tE (s,_)) s.1 (λi=>((0,i,()),id,())) (λ_ y=>decide (y.1=id)) (λi _=>(1,(i,i,()),id,())) _ ah (λi y a d m=>by
  unfold tE;rw[al d,ai,ao a,ab,dz,di,m];by_cases q:y.1=id<;>simp[q]) (by unfold tE;rw[aq,ag]) with ⟨i,y,a,n,o,e⟩|⟨hn,e⟩
 .have k:=eG a;rw[e,ab,A0 _ a (fy n) λj z g p=>xV (o j z g p)];rw[ ao a,ab,sF _ (h.bn y k).small,sG _ (by have:=(c y k).1;omega)];exact⟨true,rfl⟩
 .rw[e,O0 _ λx r=>by
   obtain⟨i,d⟩:=bc.1 r;exact xV (hn i x d)]
  exact⟨false,rfl⟩
def adG(s:aO)(a:Tx):aO×ur×aj :=
 if(aU (Ed s) a).2.1≠0 then(s,jQ (aU (Ed s) a).2.1,()) else
 if 0<u6 s (ZX s (aU (Ed s) a).1)\/Fb (Jp (·.1) s.1 (aU (Ed s) a).1,s.2) (ZX s (aU (Ed s) a).1)=true then(s,jQ 7,()) else
 (Xv (Jp (·.1) s.1 (aU (Ed s) a).1,s.2)<|ZX s (aU (Ed s) a).1,Fa (aU (Ed s) a).1,())
def Jy{s}(d:qS s)(l:∀x∈s.1,qQ x.2.2.2.2.2.1)(p:s.2.2.2.2.1.length<=50000)(a:Tx):tF (s,a,())=aa (adG s a):=by
 have r:=d.bl;have t:=d.il;have u:=d.ll;unfold tF adG;dsimp only;rw[OP s a d,ab];by_cases e:(aU (Ed s) a).2.1=0
 rotate_left
 .rw[aQ e,ar e];rfl
 rw[aK<|λq=>q e,au e,aW,ag];obtain⟨y,c,g⟩:=RZ e;obtain⟨x,v,rfl⟩:=Ul c;have g:x.1=(aU _ a).1:=g;generalize (aU _ a).1=id at g;obtain⟨b,w⟩:=Ag s id d l;rw[w,ab,cK ah,ai];rw[<-XC];generalize ZX s id=h;rcases eE (f:=oq (s,_)) s.1 (λi=>((0,i,()),id,())) (λ_ y=>decide (y.1=id)) (λi _=>(1,(i,i,()),id,())) _ ah (λi y c m A=>by
  unfold oq;dsimp only;rw[al m,ai,aG ah dR,ai,ao c,ab,dz,di,A];by_cases q:y.1=id<;>simp[q]) (by unfold oq;rw[aq,ag]) with ⟨j,y,c,B,C,D⟩|⟨n,_⟩
 rotate_left
 .obtain⟨i,m⟩:=bc.1 v;have:=n i x m;simp[g] at this
 rw[D,ab];dsimp only;rw[show cm 1 0=false from rfl,ag,bA ah,ai];unfold dA;rw[Ej s.1 j (av c) ah,<-OQ (λz=>z.1) c (fy B) (λi z o E=>xV (C i z o E)),ab,ab];rw[(mn s h ah).1,ab];have F:=vL (λz=>z.1) s.1 id;by_cases q:0<u6 s h
 .rw[aH q,aQ (.inl q)];rfl
 .rw[aB ah,aE,ai,Xr _ _ y5 y5 y5,ab,ab];cases G:Fb _ h with
  | true =>
    rw[aQ<|.inr rfl];rfl
  | false =>
    rw[aK<|by rintro(k|k);exact q k;cases k];exact ob (Fg _ h y5 ah) rfl
def Jz{s}(h:qS s)(e:s.2.2.2.2.1.length<=50000)(a:Tx):tN (s,a,())=aa (adG s a):=by
 have f:=h.bl;have g:=h.il;have i:=h.ll;unfold tN adG;rw[O3 s a h,ab];by_cases c:(aU (Ed s) a).2.1=0
 rotate_left
 .rw[aQ c,ar c];rfl
 rw[aK<|λq=>q c,au c];generalize (aU _ a).1=id;have j:=vL (λz=>z.1) s.1 id;obtain⟨b,l⟩:=Ju s id ah;rw[l,ab,XB s id ah,ab];rw[<-XC,(mn s _ ah).2,ab];generalize ZX s id=d;by_cases q:0<u6 s d
 .rw[aH q,aQ (.inl q)];rfl
 .rw[aB ah,aE,ai,H5 _ d y5 y5 y5,ab,ab];cases m:Fb _ d with
  | true =>
    rw[aQ<|.inr rfl];rfl
  | false =>
    rw[aK<|by rintro(k|k);exact q k;cases k];exact ob (Ch _ d y5 ah) rfl
def JA s (image:Tx) (given:List Tx) (a:Tx) d (h:qS s) (l:given.length<=4294967296) :
  tD (s,image,given,a,d,())=aa (crB s image given a d):=by
 have v:=h.bl;unfold tD crB;have m:aL 64 (@len UInt8 a)=decide (64<a.length):=by unfold len;apply gG.2;omega
 rw[wi given l,ab,m];by_cases e:fc given=0
 rotate_left
 .rw[aQ<|.inl e,ar e];rfl
 by_cases i:64<a.length
 .rw[aQ<|.inr i,au e,cW i];rfl
 rw[aK<|by rintro(q|q);exact q e;exact i q,au e,cf i,aW,aE,dz];have n:(ak (nt<|decide<|image=[]) (ae (nQ (s,image,())) λt=>aa ((t.2.1,()),(([]:Tx),given,t.1,([]:Tx),a,([]:List Item),()),()))<|some ((0,()),(([]),given,([]),([]),a,([]),()),())) =
   aa (((if image=[] then 0 else(aU (y7 s) image).2.1),()),(([]),given,Gc s image,([]),a,([]),()),()):=by
  unfold Gc;by_cases q:image=[]
  .rw[cW q,aW,ag,aQ q,aQ q]
  .rw[cf q,aE,ai,Cc s image h,ab,aK q,aK q]
 rw[show _=_ from n,ab];have c:(image≠[]/\(aU (y7 s) image).2.1≠0)↔¬((if image=[] then 0 else(aU (y7 s) image).2.1)=0):=by
  by_cases q:image=[]
  .simp
  .simp
 by_cases c3:(if image=[] then 0 else(aU (y7 s) image).2.1)=0
 rotate_left
 .rw[aQ<|c.2 c3];simp only[ ag,ab,ar c3];rw[(λq=>aK q.1)<|c.2 c3];rfl
 rw[aK<|λq=>c.1 q c3,au c3];simp only[ai];rw[Cf s h,ab,tY _ [] given (Em h) l,ab,ab];by_cases j:qn (Ed s) [] given=0
 rotate_left
 .rw[aQ j];simp only[ ag,ab,ar j];rfl
 rw[aK<|λq=>q j,au j];simp only[ai,ab];rw[show hL IntKind.i64 d 16777215=Xu d from rfl,Jf,ab,ab];by_cases f:(dJ (Ed s)<|Xu d).2.1=0
 rotate_left
 .rw[aQ f,ar f];rfl
 rw[aK<|λq=>q f,au f];simp only[aW,ag];obtain⟨w,o⟩:=yT s _ h;rw[o,ab];have g:((((((ak (decide<|image=[]) (((),(([]),([]),([]),([]),([]),()),()):aj×jZ×aj) ((),(wY (·.1) s.2.1 QB<|Gc s image,()))).2).1).2).2).1)=(if image=[] then [] else Cg s (Gc s image)):=by
  by_cases q:image=[]
  .rw[cW q,ai,aQ q]
  .rw[cf q,ag,aK q];rw[Sc]
 rw[show _=_ from g];rw[show hL IntKind.i64 _ 16777215=Fe d from rfl,Lr s _ _ h,ab];have b:=R7 s (if image=[] then [] else Cg s (Gc s image)) [] (Fe d);generalize crG s _ [] _=r at b;by_cases k:r.2.1.1=0
 rotate_left
 .rw[aQ k,ar k];rfl
 rw[aK<|λq=>q k,au k,aW,ag];obtain⟨_,_,p⟩:=Df f;rw[Fc r.1 _ (by rw[b];omega) l aT<|λy u=>by rw[b] at u;exact p _ (abt u),ab,b]
def JB{s}(h:qS s)(a:Tx){given}(g:mq given)(i:Tx) d:tI (s,a,given,i,d,())=aa (crI s a given i d):=by
 have m:=h.il;have n:=Uf h;unfold tI crI;rw[pd given g.small (λx b=>by have:=g.2 x b;omega),ab];dsimp only;rw[show aL 64 _=decide (64<i.length) by unfold len;apply gG.2;omega];by_cases c:fc given≠0\/64<i.length
 .rw[aQ c];by_cases q:fc given=0
  .rw[au q,cW (c.resolve_left λk=>k q)];rfl
  .rw[ar q];rfl
 rw[aK c,au (Cn λk=>c (.inl k)),cf λk=>c (.inr k)];by_cases e:a≠[]/\(aU (iP s) a).2.1≠0
 .rw[aQ e,aY e.1,fS s a h,ab,ar e.2];rfl
 rw[aK e];have j:(ak (nt<|bg a []) (ae (e7 (s,a,())) λl=>ak (nt<|aD l.2.1 0) (ae (iO (l.2.1,())) λo=>aa (1,(([]),()),o.1,s,())) (aa (0,(l.1,()),zA,zS,())))
   (aa (0,(([]),()),zA,zS,())))=aa (0,((if a=[] then [] else(aU (iP s) a).1),()),zA,zS,()):=by
  by_cases q:a=[]
  .rw[ch q,aW,ag,aQ q]
  .rw[aY q,fS s a h,ab,au (Cn λk=>e ⟨q,k⟩),aK q];rfl
 refine ob j ?_;generalize (if a=[] then [] else(aU _ a).1)=p;rw[ Ci s h,ab];rw[xF _ [] given (Ef h) g.small (λx b=>by have:=g.2 x b;omega),ab];by_cases c3:qn (y7 s) [] given=0
 rotate_left
 .rw[aQ c3,ar c3];rfl
 rw[aK<|λq=>q c3,au c3,ab];dsimp only;rw[BG _ _ ah,ab];by_cases f:(dJ (y7 s) d).2.1=0
 rotate_left
 .rw[aQ f,ar f];rfl
 obtain⟨_,_,r⟩:=Df f;rw[aK<|λq=>q f,au f,Jv s _ ah];rw[AX _ λx b=>r _ (abo b)];rfl
def JC{s}(h:qS s)(a:Tx){given}(j:mq given)(l:Tx) d:tM (s,a,given,l,d,())=aa (crB s a given l d):=by
 have t:=h.il;have u:=h.bl;have v:=Md h;unfold tM crB;rw[pd given j.small (λx e=>by have:=j.2 x e;omega),ab];dsimp only;rw[show aL 64 _=decide (64<l.length) by unfold len;apply gG.2;omega];by_cases f:fc given≠0\/64<l.length
 .rw[aQ f];by_cases q:fc given=0
  .rw[au q,cW (f.resolve_left λk=>k q)];rfl
  .rw[ar q];rfl
 rw[aK f,au (Cn λk=>f (.inl k)),cf λk=>f (.inr k)];by_cases g:a≠[]/\(aU (y7 s) a).2.1≠0
 .rw[aQ g,aY g.1,yS s a h,ab,ar g.2];rfl
 rw[aK g];have o:(ak (nt<|bg a []) (ae (tJ (s,a,())) λm=>ak (nt<|aD m.2.1 0) (ae (gE (m.2.1,())) λp=>aa (1,(([]),([]),()),p.1,s,()))
   (ae (pc (s,m.1,())) λp=>aa (0,(m.1,p.1.2.2.1,()),zA,zS,())))
   (aa (0,(([]),([]),()),zA,zS,())))=aa (0,(Gc s a,(if a=[] then [] else Cg s (Gc s a)),()),zA,zS,()):=by
  unfold Gc;by_cases q:a=[]
  .rw[ch q,aW,ag,aQ q,aQ q]
  .obtain⟨b,w⟩:=Jt s (aU _ a).1 ah;rw[aY q,yS s a h,ab,au (Cn λk=>g ⟨q,k⟩),aK q,aK q,w,Sc];rfl
 refine ob o ?_;generalize (if a=[] then [] else Cg s _)=top;rw[cV,ai,Cj s h,ab];rw[xF _ [] given (Em h) j.small (λx e=>by have:=j.2 x e;omega),ab];by_cases c3:qn (Ed s) [] given=0
 rotate_left
 .rw[aQ c3,ar c3];rfl
 rw[aK<|λq=>q c3,au c3,aW,ag,ab];dsimp only;rw[show hL IntKind.i64 d 16777215=Xu d from rfl,show hL IntKind.i64 _ 16777215=Fe d from rfl,BG _ _ ah,ab];by_cases i:(dJ (Ed s)<|Xu d).2.1=0
 rotate_left
 .rw[aQ i,ar i];rfl
 obtain⟨_,_,y⟩:=Df i;have c:=R7 s top [] (Fe d);rw[aK<|λq=>q i,au i,aW,ag,A1 h top H4 [] _ aF,abu,ab];generalize crG s top [] _=r at c;by_cases n:r.2.1.1=0
 rotate_left
 .rw[aQ n,ar n];rfl
 rw[aK<|λq=>q n,au n,aW,ag,Jw r.1 _ (by rw[c];omega),ab];rw[c,AX _ λx e=>y _ (abt e)]
def zG{α}(a:α->Tx){l} d {id} (h:∃x∈l,a x=id):a (wY a l d id)=id/\wY a l d id∈l:=by
 unfold wY;cases b:l.find? λx=>decide (a x=id) with
 | none =>
   obtain⟨x,c,e⟩:=h;have:=UJ.1 b x c;simp[e] at this
 | some y=>exact⟨by simpa using aat b,UM b⟩
def ajF(a:List Aa)(id:Tx):Option (List Item)->List Aa
 | none=>a
 | some l=>qu (·.1) (Jp (·.1) a id) (id,((wY (·.1) a GV id).2.1,((wY (·.1) a GV id).2.2.1,((wY (·.1) a GV id).2.2.2.1,((wY (·.1) a GV id).2.2.2.2.1,l,())))))
def ajG(a:List jZ)(id:Tx):Option (List Item)->List jZ
 | none=>a
 | some l=>qu (·.1) (Jp (·.1) a id) (id,((wY (·.1) a QB id).2.1,((wY (·.1) a QB id).2.2.1,((wY (·.1) a QB id).2.2.2.1,l,()))))
def itA(s:aO)(c:wy):aO×ur×aj :=
 if ¬c.2.1∈mm c then(s,jQ 1,()) else
 if(aU (xT s c.2.1) c.2.2.1).2.1≠0 then(s,jQ (aU (xT s c.2.1) c.2.2.1).2.1,()) else
 if c.2.1=1 then((ajF s.1 (aU (xT s c.2.1) c.2.2.1).1 (itF (wY (·.1) s.1 GV (aU (xT s c.2.1) c.2.2.1).1).2.2.2.2.2.1 c (aU (xT s c.2.1) c.2.2.1).1).1,s.2),((itF (wY (·.1) s.1 GV (aU (xT s c.2.1) c.2.2.1).1).2.2.2.2.2.1 c (aU (xT s c.2.1) c.2.2.1).1).2,()))
 else((s.1,(ajG s.2.1 (aU (xT s c.2.1) c.2.2.1).1 (itF (wY (·.1) s.2.1 QB (aU (xT s c.2.1) c.2.2.1).1).2.2.2.2.1 c (aU (xT s c.2.1) c.2.2.1).1).1,s.2.2)),((itF (wY (·.1) s.2.1 QB (aU (xT s c.2.1) c.2.2.1).1).2.2.2.2.1 c (aU (xT s c.2.1) c.2.2.1).1).2,()))
def agR{s}(h:qS s)(g:∀x∈s.1,qQ x.2.2.2.2.2.1)(c:wy)(o:c.1=9\/c.1=10)(n:c.2.2.2.2.2.1.length<=1048576):Bs (s,c,())=aa (itA s c):=by
 have p:=h.bl;have r:=h.il;unfold itA;refine ob (R6 c) (ob (BU (mm c) c.2.1 (by have:=OM c;omega)) ?_);dsimp only;by_cases m:c.2.1∈mm c
 rotate_left
 .rw[cf m,aQ m];rfl
 rw[cW m,aK λq=>q m];refine ob (Ku h _) (ob (nE (xT s c.2.1) c.2.2.1 (Er h _) (by have:=Ep h c.2.1;omega)) ?_);by_cases i:(aU (xT s c.2.1) c.2.2.1).2.1=0
 rotate_left
 .rw[ar i,aQ i];rfl
 rw[au i,aK λq=>q i];have b:=AY i;generalize (aU _ c.2.2.1).1=id at b;rcases OU o m with k|k
 .obtain⟨j,d⟩:=zG (λz=>z.1) GV (show ∃x∈s.1,x.1=id by
   rcases b with ⟨_,q⟩|⟨q,_⟩|⟨q,_⟩
   .exact q
   .omega
   .omega)
  rw[aQ k,au k];obtain⟨t,f⟩:=Ag s id h g;refine ob f ?_;unfold ajF;generalize wY _ s.1 GV id=x at j d;have u:=(g x d).1;unfold itF;by_cases a:c.1=10
  .rw[aQ a,au a,ai];refine ob (Kk _ _ y5) ?_;dsimp only;by_cases e:(F3 x.2.2.2.2.2.1 c.2.2.2.2.2.2.1).2=0
   .rw[aK<|λq=>q e,au e,aW,ag]
   .rw[aQ e,ar e,aE,ai];rfl
  .rw[aK a,ar a,ag];refine ob (Kl _ _ _ y5 n) ?_;dsimp only;by_cases e:(n8 x.2.2.2.2.2.1 c.2.2.2.2.2.2.1 c.2.2.2.2.2.1).2=0
   .rw[aK<|λq=>q e,au e,aW,ag];have l:=OT x.2.2.2.2.2.1 c.2.2.2.2.2.2.1 c.2.2.2.2.2.1;refine ob (Ff s _ ah (by dsimp only;exact(h.bn x d).small) y5) ?_;dsimp only;rw[j];rfl
   .rw[aQ e,ar e,aE,ai];rfl
 .obtain⟨j,d⟩:=zG _ QB (show ∃x∈s.2.1,x.1=id by
   rcases b with ⟨q,_⟩|⟨_,q⟩|⟨q,_⟩
   .omega
   .exact q
   .omega)
  rw[aK ah,ar ah];obtain⟨t,f⟩:=yT s id h;refine ob f ?_;unfold ajG;generalize wY _ s.2.1 QB id=x at j d;have u:=(h.it x d).1;unfold itF;by_cases a:c.1=10
  .rw[aQ a,au a];refine ob (Kk _ _ y5) ?_;by_cases e:(F3 x.2.2.2.2.1 c.2.2.2.2.2.2.1).2=0
   .rw[aK<|λq=>q e,au e,aW,ag]
   .rw[aQ e,ar e,aE,ai];rfl
  .rw[aK a,ar a];refine ob (Kl _ _ _ y5 n) ?_;by_cases e:(n8 x.2.2.2.2.1 c.2.2.2.2.2.2.1 c.2.2.2.2.2.1).2=0
   .rw[aK<|λq=>q e,au e];have l:=OT x.2.2.2.2.1 c.2.2.2.2.2.2.1 c.2.2.2.2.2.1;refine ob (DD s _ ah ((h.sH x d).small) y5) ?_;rw[j];rfl
   .rw[aQ e,ar e];rfl
def O5{s}(h:qS s)(j:∀x∈s.1,qQ x.2.2.2.2.2.1){c}(l:c.1=9\/c.1=10)(i:uu c):xC (s,c,())=aa (itA s c):=by
 have o:=h.bl;have p:=h.il;have hn:mm c=Qy c.2.1 [1,2]:=by unfold mm;rw[aK ah,aK ah,aK ah,aK ah,aQ l]
 unfold xC itA;dsimp only;by_cases m:c.2.1∈mm c
 rotate_left
 .rw[hn,O4] at m;simp at m;rw[aQ<|by rw[hn,O4];simp;exact m,ar m.2,ar m.1];rfl
 have n:=OU l m;have r:ak (nt<|aD c.2.1 2) (nt<|aD c.2.1 1) false=false:=by
  rcases n with q|q
  .rw[au q];cases nt _<;>rfl
  .rw[au q];rfl
 rw[aK<|λq=>q m,r,Ck h,ab];rw[pj _ _ (Er h _) (by have:=Ep h c.2.1;omega),ab];by_cases f:(aU (xT s c.2.1) c.2.2.1).2.1=0
 rotate_left
 .rw[aQ f,ar f];rfl
 rw[aK<|λq=>q f,au f];have d:=AY f;generalize (aU _ c.2.2.1).1=id at d;obtain⟨v,t⟩:=Jt s id ah;obtain⟨w,u⟩:=Ju s id ah;rw[t,ab,u,ab];rcases n with g|y
 .rw[au g,aQ g];simp only[ai];obtain⟨e,k⟩:=zG (λz=>z.1) GV (show ∃x∈s.1,x.1=id by
   rcases d with ⟨_,q⟩|⟨q,_⟩|⟨q,_⟩
   .exact q
   .omega
   .omega)
  have b:=j _ k;unfold itF;by_cases a:c.1=10
  .rw[au a,ai,aQ a,Dg _ _ (by have:=b.1;omega),ab];by_cases q:(F3 (wY (λz=>z.1) s.1 GV id).2.2.2.2.2.1 c.2.2.2.2.2.2.1).2=0
   .rw[au q,aK λz=>z q];rfl
   .rw[ar q,aQ q];rfl
  .rw[ar a,ag,aK a,Dh _ _ _ (by have:=b.1;omega) (by have:=i.key;omega) (by have:=i.data;omega),ab];by_cases q:(n8 (wY (λz=>z.1) s.1 GV id).2.2.2.2.2.1 c.2.2.2.2.2.2.1 c.2.2.2.2.2.1).2=0
   .rw[au q,aK (λz=>z q),aW,ag,Jw s _ ah];rw[e];rfl
   .rw[ar q,aQ q];rfl
 .have g:¬c.2.1=1:=ah;rw[ar g,aK g];simp only[ag];obtain⟨e,k⟩:=zG (λz=>z.1) QB (show ∃x∈s.2.1,x.1=id by
   rcases d with ⟨q,_⟩|⟨_,q⟩|⟨q,_⟩
   .omega
   .exact q
   .omega)
  have b:=h.it _ k;unfold itF;by_cases a:c.1=10
  .rw[au a,aQ a,Dg _ _ (by have:=b.1;omega),ab];by_cases q:(F3 (wY (λz=>z.1) s.2.1 QB id).2.2.2.2.1 c.2.2.2.2.2.2.1).2=0
   .rw[au q,aK λz=>z q];rfl
   .rw[ar q,aQ q];rfl
  .rw[ar a,aK a,Dh _ _ _ (by have:=b.1;omega) (by have:=i.key;omega) (by have:=i.data;omega),ab];by_cases q:(n8 (wY (λz=>z.1) s.2.1 QB id).2.2.2.2.1 c.2.2.2.2.2.2.1 c.2.2.2.2.2.1).2=0
   .rw[au q,aK (λz=>z q),Jv s _ ah];rw[e];rfl
   .rw[ar q,aQ q];rfl
structure IdS (s:aO):Prop where
 idB:∀x∈s.1,x.1.length<=1048576
 idI:∀x∈s.2.1,x.1.length<=1048576
 idL:∀x∈s.2.2.1,x.1.length<=1048576
def abx{s}(h:qS s)(c:IdS s) k:∀x∈xT s k,x.1.length<=1048576/\mq x.2.1:=λx a=>by
 rcases Js s k with ⟨_,e⟩|⟨_,e⟩|⟨_,e⟩|e
 .rw[e] at a;obtain⟨y,b,rfl⟩:=Ul a;exact⟨c.idB y b,h.bn y b⟩
 .rw[e] at a;obtain⟨y,b,rfl⟩:=abp a;exact⟨c.idI y b,h.sH y b⟩
 .rw[e] at a;obtain⟨y,b,rfl⟩:=abq a;exact⟨c.idL y b,h.ln y b⟩
 .rw[e] at a;cases a
def aiV(l:List Tx)(a:l.length<=1000) k (b:k<=4000000) (h:∀x∈l,x.length<=k):lN (l,[32],())=aa (Lib.join l [32],()):=by
 have:=Gd k l h;have c:l.length*(k+1)<=1000*4000001:=aex a ah;show(FN l [32]).map _=_
 unfold FN
 grind
def Lu(l:List Nm)(q:l.length<=60)(m:∀x∈l,x.1.length<=1048576/\mq x.2.1):z6 (l,())=aa (agL l,()):=by
 have b:∀x∈l,(Lib.join (x.1::x.2.1) [32]).length<=9437193:=λx d=>by
  have h:=m x d;have:=Gd 1048576 (x.1::x.2.1) (λy a=>by
   rcases fA.1 a with rfl|a
   .grind
   .have:=h.2.2 y a;omega)
  have o:=h.2.1
  grind
 have key:=iv (f:=p5 (l,())) l (λj i=>((i,()),((),(),()),j,())) (λx=>ax (Lib.join (x.1::x.2.1) [32]++[10])) _ ah (λi x d k e=>by
  have g:((l.take i).flatMap λx=>ax (Lib.join (x.1::x.2.1) [32]++[10])).length<=(l.take i).length*9437194:=Eo _ _ _ λc p=>by
   have:=b c (Ex p);rw[T9,iU];simp only[Sv];omega
  rw[dw] at g;have n:=m x (eG d);have Yw:=b x (eG d);have o:=n.2.1;unfold p5;rw[al k,ao d,ab,e,aJ cR,show @app Tx [x.1] x.2.1=x.1::x.2.1 from rfl,
   show lN _=_ from aiV _ cR 1048576 ah (λy a=>by
    rcases fA.1 a with rfl|a
    .grind
    .have:=n.2.2 y a;omega),ab]
  rw[aJ cR,show app _ [10]=Lib.join _ [32]++[10] from rfl,aJ (by rw[T9,iU];simp only[Sv];omega)];rfl) (by
  unfold p5;rw[aq];rfl)
 exact ob key rfl
def rnA(s:aO)(k:Int)(id:Tx)(g:List Tx):aO :=
 if k=1 then(qu (·.1) (Jp (·.1) s.1 id) (id,(g,(wY (·.1) s.1 GV id).2.2)),s.2) else if k=2 then(s.1,(qu (·.1) (Jp (·.1) s.2.1 id) (id,(g,(wY (·.1) s.2.1 QB id).2.2)),s.2.2)) else(s.1,s.2.1,rnL s.2.2.1 id g,s.2.2.2)
def rcA(s:aO)(c:wy):aO×ur×aj :=
 if ¬c.2.1∈mm c then(s,jQ 1,()) else
 if c.1=15 then(s,(0,[],0,agL<|xT s c.2.1,()),()) else
 if c.1=13/\fc c.2.2.2.2.1≠0 then(s,jQ 1,()) else
 if rcE s c≠0 then(s,jQ<|rcE s c,()) else
 if c.1=13 then(rnA s c.2.1 (aU (xT s c.2.1) c.2.2.1).1 c.2.2.2.2.1,Fa (aU (xT s c.2.1) c.2.2.1).1,()) else(s,Fa (aU (xT s c.2.1) c.2.2.1).1,())
def Z0{s}(h:qS s)(g:IdS s)(c:wy)(p:c.1=13\/c.1=14\/c.1=15)(r:c.2.2.2.2.1.length<=1000)
  (i:∀id,(c.2.1=1/\∃x∈s.1,x.1=id)\/(c.2.1=2/\∃x∈s.2.1,x.1=id)\/(c.2.1=3/\∃x∈s.2.2.1,x.1=id)->hY (s,c.2.1,id,c.2.2.2.2.1,())=aa (rnA s c.2.1 id c.2.2.2.2.1,())) :
  yr (s,c,())=aa (rcA s c):=by
 unfold rcA;refine ob (Ku h _) (ob (R6 c)<|ob (BU (mm c) c.2.1 (by have:=OM c;omega)) ?_);dsimp only;by_cases m:c.2.1∈mm c
 rotate_left
 .rw[cf m,aQ m];rfl
 rw[cW m,aK λq=>q m];by_cases a:c.1=15
 .rw[aQ a,au a];exact ob (Lu _ (Ep h _)<|abx h g _) rfl
 rw[aK a,ar a];have hs:=Er h c.2.1;have t:=Ep h c.2.1;have j:(ak (aD c.1 13) (ae (gB (c.2.2.2.2.1,())) λk=>aa (nt<|aD k.1 0))<|some false)=aa (decide<|c.1=13/\fc c.2.2.2.2.1≠0):=by
  by_cases q:c.1=13
  .rw[au q,wi _ ah,ab];by_cases b:fc c.2.2.2.2.1=0
   .rw[au b,cf λz=>z.2 b];rfl
   .rw[ar b,cW ⟨q,b⟩];rfl
  .rw[ar q,ag,cf λz=>q z.1]
 refine ob j ?_;by_cases f:c.1=13/\fc c.2.2.2.2.1≠0
 .rw[cW f,aQ f];rfl
 rw[cf f,aK f];refine ob (nE _ c.2.2.1 hs ah) ?_;have l:(ak (ak (aD (aU (xT s c.2.1) c.2.2.1).2.1 0) (aD c.1 13) false) (ae (iz (xT s c.2.1,(aU (xT s c.2.1) c.2.2.1).1,c.2.2.2.2.1,())) λn=>aa ((n.1,()),()))<|some (((aU (xT s c.2.1) c.2.2.1).2.1,()),()))=aa ((rcE s c,()),()):=by
  unfold rcE;by_cases q:(aU (xT s c.2.1) c.2.2.1).2.1=0
  .rw[au q,ai];by_cases b:c.1=13
   .rw[au b,ai,aQ ⟨q,b⟩,tY _ _ _ hs ah,ab]
   .rw[ar b,ag,aK λz=>b z.2]
  .rw[ar q,ag,ag,aK λz=>q z.1]
 refine ob l ?_;by_cases e:rcE s c=0
 rotate_left
 .rw[aQ e];rw[ar e];rfl
 rw[aK λq=>q e];rw[au e];by_cases d:c.1=13
 .rw[aQ d,au d];have o:=Cn λq=>by
   unfold rcE at e;rw[aK λz=>q z.1] at e;exact q e
  rw[i _<|AY o];rfl
 .rw[aK d,ar d];rfl
def Fi{s}(h:qS s)(c:∀x∈s.1,qQ x.2.2.2.2.2.1) k (g:List Tx) (n:g.length<=1000) id (hx:(k=1/\∃x∈s.1,x.1=id)\/(k=2/\∃x∈s.2.1,x.1=id)):hY (s,k,id,g,())=aa (rnA s k id g,()):=by
 have j:=h.bl;have l:=h.il;unfold hY rnA;dsimp only;rcases hx with ⟨f,hx⟩|⟨i,hx⟩
 .rw[aQ f,au f];obtain⟨d,e⟩:=zG (λz=>z.1) GV hx;obtain⟨b,a⟩:=Ag s id h c;refine ob a ?_;have m:=(c _ e).1;refine ob (Ff s _ ah y5 y5) ?_;dsimp only;rw[d]
 .rw[aK ah,ar ah,aQ i,au i];obtain⟨d,e⟩:=zG (λz=>z.1) QB hx;obtain⟨b,a⟩:=yT s id h;refine ob a ?_;have m:=(h.it _ e).1;refine ob (DD s _ ah y5 y5) ?_;rw[d]
def Us{s}(h:qS s) k (g:List Tx) (u:g.length<=1000) id (m:k=3) (hx:∃x∈s.2.2.1,x.1=id):hY (s,k,id,g,())=aa (rnA s k id g,()):=by
 have n:=h.ll;subst m;unfold hY rnA;dsimp only;rw[ar aF,ag,ar aF,ag,cK ah];rcases eE (f:=mR (s,_)) s.2.2.1 (λi=>((0,i,()),id,())) (λ_ y=>decide (y.1=id)) (λi _=>(1,(i,i,()),id,())) _ ah (λi y a d o=>by
  unfold mR;dsimp only;rw[al d,ai,aG ah dR,ai,ao a,ab,dz,di,o];by_cases q:y.1=id<;>simp[q]) (by unfold mR;rw[aq,ag]) with ⟨j,y,a,b,c,p⟩|⟨e,_⟩
 rotate_left
 .obtain⟨y,a,r⟩:=hx;obtain⟨i,d⟩:=bc.1 a;have:=e i y d;simp[r] at this
 have b:=fy b;have v:=av a;rw[p,ab];rw[show cm 1 0=false from rfl,ag,ab];dsimp only;rw[sF _ ah,ab,aG ah dR,ao a,ab,ab,ab];unfold rnL kO;rw[(Dy a b c),(A0 _ a b λi z l t=>xV (c i z l t)),b];rfl
def adH(a:Tx)(l:List Tx):Lib.join (a::l) [32]=a++l.flatMap λn=>32::n:=by
 rw[Lib.join_cons];rfl
def adI l:agL l=l.flatMap λx=>x.1++(x.2.1.flatMap λn=>32::n)++[10]:=by
 unfold agL;have:(l.flatMap λx=>ax (Lib.join (x.1::x.2.1) [32]++[10]))=ax (l.flatMap λx=>x.1++(x.2.1.flatMap λn=>32::n)++[10]):=by
  unfold ax;rw[List.map_flatMap];simp only[adH]
 rw[this,nC]
def Gi{s}(h:qS s) id (g:List Tx) (hx:∃x∈s.2.2.1,x.1=id):ia (s,3,id,g,())=aa (rnA s 3 id g,()):=by
 have n:=h.ll;obtain⟨j,y,c,k,b,o⟩:∃(j:Nat) (y:cA),s.2.2.1[j]?=aa y/\y.1=id/\_/\F9 s.2.2.1 id=aa j:=by
  rcases Wn s.2.2.1 _ with ⟨j,y,c,m,b⟩|hn
  .exact⟨j,y,c,fy m,λi x a hx=>xV (b i x a hx),Dy c (fy m) b⟩
  .obtain⟨x,hx,e⟩:=hx;obtain⟨i,a⟩:=bc.1 hx;exact absurd e (xV<|hn i x a)
 have d:∀i x,s.2.2.1[i]?=aa x->ak (bg x.1 id) (nt<|decide<|j<i) false=decide (i=j):=λi x a=>by
  rw[dz];rcases Mn i j with q|q|q
  .rw[cf<|b i x q a,cf (show ¬i=j by omega)];rfl
  .subst q;rw[c] at a;rw[<-aI a,cW k,cf (Nat.lt_irrefl i),cW rfl];rfl
  .rw[cW q,cf (show ¬i=j by omega)];cases decide (x.1=id)<;>rfl
 have hlen:(rnL s.2.2.1 id g).length=s.2.2.1.length:=abv _ _ _;have l:∀i x,s.2.2.1[i]?=aa x->(rnL s.2.2.1 id g)[i]?=aa (if i=j then(x.1,x.2.1,g,x.2.2.2) else x):=λi x a=>by
  unfold rnL;rw[o,(A0 _ c k b),Option.getD_some,List.getElem?_set];by_cases q:i=j
  .subst q;rw[c] at a;rw[aQ rfl,aQ (av c),aQ rfl,<-aI a,k]
  .rw[aK<|λz=>q z.symm,aK q,a]
 have key:=dc (f:=mS (s,3,id,g,())) s.2.2.1.length
  (λi=>(((),decide _,i,()),(rnL s.2.2.1 id g).take i,())) (λi a=>by
   have hx:=ft a;have p:(rnL s.2.2.1 id g).take (i+1)=(rnL s.2.2.1 id g).take i++[if i=j then(s.2.2.1[i].1,s.2.2.1[i].2.1,g,s.2.2.1[i].2.2.2) else s.2.2.1[i]]:=by rw[xX,l i _ hx];rfl
   unfold mS;dsimp only;rw[al a,ao hx,ab,d i _ hx,aC ah,p];rw[(λz=>aJ cR)];by_cases q:i=j
   .subst q;rw[cW rfl,aQ rfl,cW (UX i)];rfl
   .rw[cf q,aK q];have e:decide (j<i+1)=decide (j<i):=gG.2 ah;rw[e];rfl) (by
   unfold mS;rw[aq,KE ah];rfl)
 unfold ia rnA;dsimp only;exact ob key rfl
def H9{s}(h:qS s) k id (g:List Tx) (hx:(k=1/\∃x∈s.1,x.1=id)\/(k=2/\∃x∈s.2.1,x.1=id)\/(k=3/\∃x∈s.2.2.1,x.1=id)):ia (s,k,id,g,())=aa (rnA s k id g,()):=by
 have d:=h.bl;have e:=h.il;rcases hx with ⟨rfl,hx⟩|⟨rfl,hx⟩|⟨rfl,hx⟩
 .obtain⟨b,a⟩:=Ju s id ah;obtain⟨c,_⟩:=zG (λz=>z.1) GV hx;unfold ia rnA;dsimp only;rw[ a,aQ rfl];refine ob (Jw s _ ah) ?_;rw[c]
 .obtain⟨b,a⟩:=Jt s id ah;obtain⟨c,_⟩:=zG _ QB hx;unfold ia rnA;dsimp only;rw[ a,aK aF,aQ rfl];refine ob (Jv s _ ah) ?_;rw[c]
 .exact Gi h id g hx
def O6{x:Nm}(h:x.1.length<=1048576/\mq x.2.1):(x.1++(x.2.1.flatMap λn=>32::n)++[10]).length<=1060000:=by
 have a:(x.2.1.flatMap λn=>32::n).length<=x.2.1.length*1000:=Eo _ 1000 x.2.1 λn hn=>by have:=h.2.2 n hn;simp;omega
 have:=h.2.1;simp only[iU,iV,qv];omega
def O7(l:List Nm)(s:l.length<=60)(j:∀x∈l,x.1.length<=1048576/\mq x.2.1):Bx (l,())=aa (agL l,()):=by
 rw[adI];have key:=iv (f:=rH (l,())) l (λb i=>((b,i,()),())) _ _ ah (λi x e h d=>by
  have a:((l.take i).flatMap _).length<=(l.take i).length*1060000:=Eo _ _ _ λc o=>O6 (j c<|Ex o);rw[dw] at a;have g:=j x (eG e);have Yw:=O6 g;simp only[iU,iV,qv] at Yw;have t:=g.2.1;generalize u:(l.take i).flatMap _=O at a;have inner:=iv (f:=rG (l,()) ((O,i,()),())) x.2.1 (λb k=>((O++x.1++b,k,()),())) _ _ ah (λk n hn p q=>by
   have r:=g.2.2 n (eG hn);have m:=Eo (λn=>32::n) 1000 (x.2.1.take k) λn hn=>by have:=g.2.2 n (Ex hn);simp;omega
   rw[dw] at m;unfold rG;generalize (x.2.1.take k).flatMap _=Q at m;rw[ao e,ab,al p,ab,ao hn,ab,q,aJ cR,aJ (by simp only[ib,iU,iV,qv];omega),ai];simp only[ib,xW];rfl) (by
   unfold rG;rw[ao e,ab,aq];rfl)
  rw[uC] at inner;unfold rH;dsimp only;rw[al h,ao e,ab,aJ ah,d,show app O x.1=O++x.1 from rfl,inner,ab];rw[aJ<|by simp only[iU,iV,qv];omega];simp only[ib,xW];rfl) (by
  unfold rH;rw[aq];rfl)
 exact ob key rfl
def JD{s}(h:qS s)(i:IdS s){c}(o:c.1=13\/c.1=14\/c.1=15)(p:uu c):tO (s,c,())=aa (rcA s c):=by
 have f:=p.nms;have hn:mm c=Qy c.2.1 [1,2,3]:=by unfold mm;rw[aK ah,aK ah,aK ah,aK ah,aK ah,aQ o]
 have n:c.2.1∈mm c↔c.2.1=1\/c.2.1=2\/c.2.1=3:=by rw[hn,O4];simp
 unfold tO rcA;have r:ak (nt<|aL c.2.1 1) (aL 3 c.2.1) true=decide (¬c.2.1∈mm c):=by
  by_cases q:c.2.1<1
  .rw[aH q,aW,ag,cW (by rw[n];omega)]
  .rw[aB ah];exact gG.2 (by rw[n];omega)
 rw[r];by_cases m:c.2.1∈mm c
 rotate_left
 .rw[cW m,aQ m];rfl
 rw[cf<|λq=>q m,aK (λq=>q m),Ck h,ab];by_cases a:c.1=15
 .rw[aQ a,au a];exact ob (O7 _ (Ep h _)<|abx h i _) rfl
 rw[aK a,ar a];have hs:=Er h c.2.1;have u:=Ep h c.2.1;have j:(ak (aD c.1 13) (ae (gC (c.2.2.2.2.1,())) λt=>aa (nt<|aD t.1 0))<|some false)=aa (decide<|c.1=13/\fc c.2.2.2.2.1≠0):=by
  by_cases q:c.1=13
  .rw[au q,pd _ f.small (λx l=>by have:=f.2 x l;omega),ab];by_cases k:fc c.2.2.2.2.1=0
   .rw[au k,cf λz=>z.2 k];rfl
   .rw[ar k,cW ⟨q,k⟩];rfl
  .rw[ar q,ag,cf λz=>q z.1]
 rw[j,ab];by_cases g:c.1=13/\fc c.2.2.2.2.1≠0
 .rw[cW g,aQ g];rfl
 rw[cf g,aK g,pj _ _ hs ah,ab];unfold rcE;by_cases b:(aU (xT s c.2.1) c.2.2.1).2.1=0
 rotate_left
 .rw[aK<|show ¬((aU (xT s c.2.1) c.2.2.1).2.1=0/\c.1=13) from λz=>b z.1,aQ b,ar b];rfl
 rw[au b];by_cases d:c.1=14
 .rw[aK<|show ¬((aU _ c.2.2.1).2.1=0/\c.1=13) by omega,aK (λz=>z b),aK ah,au d];rfl
 have e:c.1=13:=ah;rw[aQ<|show(aU _ c.2.2.1).2.1=0/\c.1=13 from⟨b,e⟩,aQ e,ar d,xF _ _ _ hs f.small (λx l=>by have:=f.2 x l;omega),ab];by_cases c3:qn (xT s c.2.1) (aU (xT s c.2.1) c.2.2.1).1 c.2.2.2.2.1=0
 rotate_left
 .rw[aQ c3,ar c3];rfl
 rw[aK<|λz=>z c3,au c3];exact ob (H9 h _ _ _<|AY b) rfl
def qS.tree{s}(h:qS s)(p:Tx):mQ (s,p,())=aa ((nF s.2.2.1 s.2.2.2.1 p).1,(nF s.2.2.1 s.2.2.2.1 p).2,()) :=
 OO s p (by have:=h.ll;omega) (λx a=>(h.ln x a).small)
def Lv{s}(h:qS s)(a:Tx):zZ (s,a,())=aa (dfA s a,()):=by
 unfold dfA;refine ob (km s a h) ?_;by_cases c:(aU (iP s) a).2.1=0
 rotate_left
 .rw[ar c,aQ c];rfl
 rw[au c,aK λq=>q c];exact ob (DB s _ (by have:=h.ll;omega) λx b=>(h.ln x b).small) rfl
def JE{s}(h:qS s)(p:Tx):jr (s,p,())=aa ((Cd s p).1,(Cd s p).2,()):=by
 unfold jr Cd;by_cases q:p=[]
 .rw[ch q,ai,aQ q]
 .rw[aY q,aK q];exact ob (h.tree p) rfl
def Gj{s}(h:qS s)(a:Tx):uM (s,a,())=aa (chA s a,()):=by
 unfold chA;refine ob (km s a h) ?_;by_cases c:(aU (iP s) a).2.1=0
 rotate_left
 .rw[ar c,aQ c];rfl
 rw[au c,aK λq=>q c];refine ob (DB s _ (by have:=h.ll;omega) λx g=>(h.ln x g).small) ?_;refine ob (h.tree _) ?_;by_cases b:(nF s.2.2.1 s.2.2.2.1 (aU (iP s) a).1).2=0
 rotate_left
 .rw[ar b,aQ b];rfl
 rw[au b,aK λq=>q b];refine ob (JE h _) ?_;by_cases c3:(Cd s (u5 s (aU (iP s) a).1).1.2.1).2=0
 rotate_left
 .rw[ar c3,aQ c3];rfl
 rw[au c3,aK λq=>q c3];have d:=El c3;have e:=Gb b;have hs:=R8 d e;have f:=Xw _ _ (fR d) (fR e);unfold QA at f;rw[aQ ⟨d,e⟩] at f;refine ob f ?_;exact ob (adz _ hs.1 hs.2) rfl
def JF{s}(h:qS s)(b:s.2.2.2.2.1.length<=50000)(a:Tx):yv (s,a,())=aa (dlS s a):=by
 have d:=h.ll;have e:=h.il;have f:=h.bl;unfold dlS;refine ob (fS s a h) ?_;by_cases c:(aU (iP s) a).2.1=0
 rotate_left
 .rw[ar c,aQ c];rfl
 rw[au c,aK λq=>q c];refine ob (H5 s _ ah ah ah) ?_;cases g:Fb s (aU _ a).1 with
 | true =>
   rfl
 | false =>
   rw[aE,ai,(mn s _ ah).2,ab,ab];by_cases q:0<u6 s (aU (iP s) a).1
   .rw[aH q,aQ (.inr q)];rfl
   .rw[aB ah,aK (by rintro(k|k);cases k;exact q k)];exact ob (Ch s _ ah ah) rfl
def O8{s}(h:qS s)(a:Tx):Bu (s,a,())=aa (dfA s a,()):=by
 unfold dfA;refine ob (fS s a h) ?_;by_cases c:(aU (iP s) a).2.1=0
 rotate_left
 .rw[ar c,aQ c];rfl
 rw[au c,aK λq=>q c];exact ob (Kv s _ (by have:=h.ll;omega)) rfl
def Ia{s}(h:qS s)(a:Tx):wK (s,a,())=aa (chA s a,()):=by
 have l:=h.ll;unfold chA;refine ob (fS s a h) ?_;by_cases c:(aU (iP s) a).2.1=0
 rotate_left
 .rw[ar c,aQ c];rfl
 rw[au c,aK λq=>q c];refine ob (BQ s _ ah) ?_;by_cases f:(nF s.2.2.1 s.2.2.2.1 (aU (iP s) a).1).2=0
 rotate_left
 .rw[ar f,aQ f];rfl
 rw[au f,aK λq=>q f];refine ob (Kv s _ ah) ?_;have fin:∀b,b=Cd s (u5 s (aU (iP s) a).1).1.2.1->b.2=0->(ae (nk (b.1,_)) λm=>ae (tj (m.1,())) λn=>aa (((0:Int),(aU (iP s) a).1,(0:Int),n.1,()),())) =
   aa _:=λb d e=>by
  subst d;have g:=El e;have i:=Gb f;have hs:=R8 g i;have j:=OX _ _ (fR g) (fR i);unfold QA at j;rw[aQ ⟨g,i⟩] at j;refine ob j ?_;exact ob (Uq _ hs.1 hs.2) rfl
 generalize (u5 s (aU _ a).1)=L at fin;by_cases q:L.1.2.1=[]
 .have d:Cd s L.1.2.1=([],0):=by unfold Cd;rw[aQ q]
  rw[show bg L.1.2.1 []=true from ch q,aW,ag,ab];rw[ aK (by rw[d];exact λk=>k rfl)];exact fin ([],0) d.symm rfl
 .have d:Cd s L.1.2.1=nF s.2.2.1 s.2.2.2.1 L.1.2.1:=by unfold Cd;rw[aK q]
  rw[show bg L.1.2.1 []=false from aY q,aE,ai,BQ s _ ah,ab];by_cases e:(nF s.2.2.1 s.2.2.2.1 L.1.2.1).2=0
  .rw[au e,aW,ag,ab];rw[ aK (by rw[d];exact λk=>k e)];exact fin _ d.symm e
  .rw[ar e,aE,ai,Ls,ab,ab];rw[show cm 1 0=false from rfl,ag,aQ (by rw[d];exact e),d]
def doA(s:aO)(c:wy):aO×ur×aj :=
 if c.1=1 then crS s c.2.2.2.1 c.2.2.2.2.1 c.2.2.2.2.2.1 c.2.2.2.2.2.2.2.1 else
 if c.1=2 then dlS s c.2.2.1 else if c.1=3 then(s,dfA s c.2.2.1,()) else if c.1=4 then(s,chA s c.2.2.1,()) else
 if c.1=5 then ctA s c.2.2.1 1 else if c.1=6 then ctA s c.2.2.1 (-1) else
 if c.1=7 then crI s c.2.2.2.1 c.2.2.2.2.1 c.2.2.2.2.2.1 c.2.2.2.2.2.2.2.1 else if c.1=8 then adF s c.2.2.1 else
 if c.1=11 then crB s c.2.2.2.1 c.2.2.2.2.1 c.2.2.2.2.2.1 c.2.2.2.2.2.2.2.1 else if c.1=12 then adG s c.2.2.1 else
 if c.1=9\/c.1=10 then itA s c else if c.1=13\/c.1=14\/c.1=15 then rcA s c else(s,jQ 1,())
structure A24 (s:aO):Prop where
 hd:qS s
 ids:IdS s
 bits:∀x∈s.1,qQ x.2.2.2.2.2.1
 ml:s.2.2.2.2.1.length<=1000
def O9{s}(h:A24 s){c}(e:uu c):yw (s,c,())=aa (doA s c):=by
 have hd:=e.data;unfold yw doA;dsimp only;by_cases g:c.1=1
 .rw[aQ g,au g];exact ob (A1 h.hd _ e.nms _ _ ah) rfl
 rw[aK g,ar g];by_cases i:c.1=2
 .rw[aQ i,au i];exact ob (JF h.hd (by have:=h.ml;omega) _) rfl
 rw[aK i,ar i];by_cases j:c.1=3
 .rw[aQ j,au j];exact ob (O8 h.hd _) rfl
 rw[aK j,ar j];by_cases k:c.1=4
 .rw[aQ k,au k];exact ob (Ia h.hd _) rfl
 rw[aK k,ar k];by_cases l:c.1=5
 .rw[aQ l,au l];exact ob (Lt h.hd (by have:=h.ml;omega) _) rfl
 rw[aK l,ar l];by_cases m:c.1=6
 .rw[aQ m,au m];exact ob (H7 h.hd (by have:=h.ml;omega) _) rfl
 rw[aK m,ar m];by_cases n:c.1=7
 .rw[aQ n,au n];exact ob (JB h.hd _ e.nms _ _) rfl
 rw[aK n,ar n];by_cases o:c.1=8
 .rw[aQ o,au o];exact ob (Jx h.hd _) rfl
 rw[aK o,ar o];by_cases b:c.1=11
 .rw[aQ b,au b];exact ob (JC h.hd _ e.nms _ _) rfl
 rw[aK b,ar b];by_cases d:c.1=12
 .rw[aQ d,au d];exact ob (Jz h.hd (by have:=h.ml;omega) _) rfl
 rw[aK d,ar d];have t:((ak (aD c.1 9) ((aD c.1 9,()),()) ((aD c.1 10,()),())).1).1=decide (c.1=9\/c.1=10):=by
  by_cases q:c.1=9
  .rw[au q,cW (.inl q)];rfl
  .rw[ar q];exact gG.2 ⟨.inr,λz=>z.resolve_left q⟩
 rw[t];by_cases f:c.1=9\/c.1=10
 .rw[aQ f,cW f];exact ob (O5 h.hd h.bits f e) rfl
 rw[aK f,cf f];have r:((ak (aD c.1 13) ((aD c.1 13,()),()) ((((ak (aD c.1 14) ((aD c.1 14,()),()) ((aD c.1 15,()),())).1).1,()),())).1).1=decide (c.1=13\/c.1=14\/c.1=15):=by
  by_cases q:c.1=13
  .rw[au q,cW (.inl q)];rfl
  .by_cases p:c.1=14
   .rw[ar q,au p,cW (.inr<|.inl p)];rfl
   .rw[ar q,ar p];exact gG.2 ⟨λz=>.inr (.inr z),λz=>(z.resolve_left q).resolve_left p⟩
 rw[r];by_cases a:c.1=13\/c.1=14\/c.1=15
 .rw[aQ a,cW a];exact ob (JD h.hd h.ids a e) rfl
 rw[aK a,cf a];rfl
def agS{s}(h:A24 s){c}(r:uu c):yu (s,c,())=aa (doA s c):=by
 have hn:=r.nms.1;have hd:=r.data;have t:=h.ml;have u:=h.hd.il;unfold yu doA;dsimp only;by_cases i:c.1=1
 .rw[au i,aQ i];exact ob (Ce s c.2.2.2.1 c.2.2.2.2.1 c.2.2.2.2.2.1 c.2.2.2.2.2.2.2.1 h.hd ah ah h.hd.tree) rfl
 rw[ar i,aK i];by_cases j:c.1=2
 .rw[au j,aQ j];exact ob (H2 s _ h.hd ah) rfl
 rw[ar j,aK j];by_cases k:c.1=3
 .rw[au k,aQ k];exact ob (Lv h.hd _) rfl
 rw[ar k,aK k];by_cases l:c.1=4
 .rw[au l,aQ l];exact ob (Gj h.hd _) rfl
 rw[ar l,aK l];by_cases m:c.1=5
 .rw[au m,aQ m];exact ob (ob (Ky h.hd ah c.2.2.1 1) rfl) rfl
 rw[ar m,aK m];by_cases n:c.1=6
 .rw[au n,aQ n];exact ob (ob (Ky h.hd ah c.2.2.1<|-1) rfl) rfl
 rw[ar n,aK n];by_cases o:c.1=7
 .rw[au o,aQ o];exact ob (HX s _ _ _ _ h.hd ah ah) rfl
 rw[ar o,aK o];by_cases p:c.1=8
 .rw[au p,aQ p];exact ob (H8 s _ h.hd) rfl
 rw[ar p,aK p];by_cases e:c.1=11
 .rw[au e,aQ e];exact ob (JA s _ _ _ _ h.hd ah) rfl
 rw[ar e,aK e];by_cases f:c.1=12
 .rw[au f,aQ f];exact ob (Jy h.hd h.bits ah _) rfl
 rw[ar f,aK f];rw[show(((ak _ ((aD c.1 9,()),()) _).1).1)=decide (c.1=9\/c.1=10) from by
  by_cases a:c.1=9
  .rw[au a,ai,cW (.inl a)]
  .rw[ar a];exact gG.2 ⟨.inr,λq=>q.resolve_left a⟩]
 by_cases g:c.1=9\/c.1=10
 .rw[cW g,aQ g];exact ob (agR h.hd h.bits c g ah) rfl
 rw[cf g,aK g];rw[show(((ak _ _ ((((ak _ ((aD c.1 14,()),()) _).1).1,()),())).1).1)=decide (c.1=13\/c.1=14\/c.1=15) from by
  by_cases a:c.1=13
  .rw[au a,ai,cW (.inl a)]
  .by_cases b:c.1=14
   .rw[ar a,ag,au b,ai,cW (.inr<|.inl b)]
   .rw[ar a,ar b];exact gG.2 ⟨λq=>.inr (.inr q),λq=>(q.resolve_left a).resolve_left b⟩]
 by_cases d:c.1=13\/c.1=14\/c.1=15
 .rw[cW d,aQ d];refine ob (Z0 h.hd h.ids c d ah λid v=>?_) rfl;rcases v with q|q|⟨w,x⟩
  .exact Fi h.hd h.bits _ _ ah id (.inl q)
  .exact Fi h.hd h.bits _ _ ah id (.inr q)
  .exact Us h.hd _ _ ah id w x
 rw[cf d,aK d];rfl
structure jP (n:Nat) (s:aO):Prop where
 bl:s.1.length<=n
 il:s.2.1.length<=n
 ll:s.2.2.1.length<=n
 dl:s.2.2.2.1.length<=n
 ml:s.2.2.2.2.1.length<=n+100
 xb:∀x∈s.1,mq x.2.1/\qQ x.2.2.2.2.2.1/\x.1.length<=1048576
 xi:∀x∈s.2.1,mq x.2.1/\qQ x.2.2.2.2.1/\x.1.length<=1048576
 xl:∀x∈s.2.2.1,mq x.2.2.1/\x.1.length<=1048576
def jP.up{n s}(h:jP n s):jP (n+1) s:=⟨UW h.bl,UW h.il,UW h.ll,UW h.dl,by have:=h.ml;omega,h.xb,h.xi,h.xl⟩
def jP.to{n m s}(h:jP n s)(a:n<=m):jP m s:=⟨fB h.bl a,fB h.il a,fB h.ll a,fB h.dl a,by have:=h.ml;omega,h.xb,h.xi,h.xl⟩
def jP.a{s}(h:jP 60 s):A24 s:=⟨⟨h.ll,h.il,h.bl,λx b=>(h.xl x b).1,λx b=>(h.xi x b).1,λx b=>(h.xb x b).1,λx b=>(h.xi x b).2.1⟩,⟨λx b=>(h.xb x b).2.2,λx b=>(h.xi x b).2.2,λx b=>(h.xl x b).2⟩,λx b=>(h.xb x b).2.1,by have:=h.ml;omega⟩
def jP.slf{n s}(h:jP n s)(b:n<=60):aiP s:=⟨by have:=h.bl;omega,by have:=h.il;omega,by have:=h.ll;omega,by have:=h.dl;omega,by have:=h.ml;omega,λx a=>⟨(h.xb x a).1,(h.xb x a).2.1⟩,λx a=>⟨(h.xi x a).1,(h.xi x a).2.1⟩,λx a=>(h.xl x a).1⟩
def jP.ite{n p}[Decidable p]{u v:aO×ur×aj}(a:p->jP n u.1)(b:¬p->jP n v.1):jP n (if p then u else v).1:=by
 split
 .exact a ‹_›
 .exact b ‹_›
def aby{n s}(h:jP n s) id k:jP (n+1) (Uk s id k):=by
 have a:=h.up;have b:=(Ma (λz=>z.1) s.2.2.2.2.1 id).length_le;have c:=h.ml;refine⟨a.bl,a.il,a.ll,a.dl,?_,a.xb,a.xi,a.xl⟩;unfold Uk;dsimp only;split
 .rw[wx];omega
 .omega
def ajH{n s}(h:jP n s) id:jP (n+1) (Xv s id):=by
 have a:(yR s.2.2.1.length s.2.2.2.1).length<=n:=by rw[qT];exact h.ll
 unfold Xv;cases F9 s.2.2.1 id with
 | none=>exact aby (s:=(s.1,s.2.1,s.2.2.1,yR s.2.2.1.length s.2.2.2.1,s.2.2.2.2)) ⟨h.bl,h.il,h.ll,a,h.ml,h.xb,h.xi,h.xl⟩ id 0
 | some i=>exact aby (s:=(s.1,s.2.1,cutAt s.2.2.1 i,cutAt _ i,s.2.2.2.2)) ⟨h.bl,h.il,fB (AW _ _) h.ll,fB (AW _ _) a,h.ml,h.xb,h.xi,λx b=>h.xl x (R4 _ _ x b)⟩ id 0
def agT{n s}(h:jP n s){x}(e:mq x.2.2.1)(b:x.1.length<=1048576) d:jP (n+1) (Kr s x d):=by
 have f:=h.ll;have a:=h.up;refine⟨a.bl,a.il,?_,?_,a.ml,a.xb,a.xi,λy c=>?_⟩
 .show(qu _ s.2.2.1 x).length<=_
  rw[wx];omega
 .show(uA _ _ _).length<=_
  unfold uA;simp only[iU,dw,rV,qT,iV,qv];omega
 .rcases(yQ _).1 c with rfl|c
  .exact⟨e,b⟩
  .exact a.xl y c
def abz{l d}(h:¬(dJ l d).2.1≠0):(dJ l d).1.length<=1048576:=by
 have:=(Df<|Cn h).2.1.2;omega
def abA{n s}(h:jP n s){bo}(a:bo.length<=n)(b:∀x∈bo,mq x.2.1/\qQ x.2.2.2.2.2.1/\x.1.length<=1048576):jP n (bo,s.2):=⟨a,h.il,h.ll,h.dl,h.ml,b,h.xi,h.xl⟩
def abB{n s}(h:jP n s){im}(a:im.length<=n)(b:∀x∈im,mq x.2.1/\qQ x.2.2.2.2.1/\x.1.length<=1048576):jP n (s.1,im,s.2.2):=⟨h.bl,a,h.ll,h.dl,h.ml,h.xb,b,h.xl⟩
def JG{α}{a:α->Tx}{l p x}(h:x∈Jp a l p):x∈l:=by
 unfold Jp at h;split at h
 .exact R4 _ _ x h
 .exact h
def Sd{s}(h:IdS s){k ref}(c:(aU (xT s k) ref).2.1=0):(aU (xT s k) ref).1.length<=1048576:=by
 rcases AY c with ⟨_,x,a,e⟩|⟨_,x,a,e⟩|⟨_,x,a,e⟩
 .rw[<-e];exact h.idB x a
 .rw[<-e];exact h.idI x a
 .rw[<-e];exact h.idL x a
def amk{n s}(h:jP n s){c}(f:uu c):jP (n+1) (itA s c).1:=by
 have a:=h.up;refine jP.ite (λ_=>a) λ_=>jP.ite (λ_=>a) λg=>?_;have b:=Sd ⟨λx hx=>(h.xb x hx).2.2,λx hx=>(h.xi x hx).2.2,λx hx=>(h.xl x hx).2⟩ (Cn g);generalize (aU _ c.2.2.1).1=id at b;refine jP.ite (λ_=>?_) λ_=>?_
 .have d:mq (wY (λz=>z.1) s.1 GV id).2.1/\qQ (wY (λz=>z.1) s.1 GV id).2.2.2.2.2.1:=by
   rcases Up with q|q
   .exact⟨(h.xb _ q).1,(h.xb _ q).2.1⟩
   .rw[q];exact⟨H4,AZ⟩
  cases e:(itF (wY (λz=>z.1) s.1 GV id).2.2.2.2.2.1 c id).1 with
  | none=>exact a
  | some m =>
    have i:=vL (λz=>z.1) s.1 id;have j:=h.bl;refine abA a (by show(qu _ _ _).length<=_;rw[wx];omega) λx hx=>?_;rcases(yQ _).1 hx with rfl|hx
    .exact⟨d.1,(Xz e d.2 f.key),b⟩
    .exact a.xb x (JG hx)
 .have d:mq (wY (λz=>z.1) s.2.1 QB id).2.1/\qQ (wY (λz=>z.1) s.2.1 QB id).2.2.2.2.1:=by
   rcases Up with q|q
   .exact⟨(h.xi _ q).1,(h.xi _ q).2.1⟩
   .rw[q];exact⟨H4,AZ⟩
  cases e:(itF (wY _ s.2.1 QB id).2.2.2.2.1 c id).1 with
  | none=>exact a
  | some m =>
    have i:=vL (λz=>z.1) s.2.1 id;have j:=h.il;refine abB a (by show(qu _ _ _).length<=_;rw[wx];omega) λx hx=>?_;rcases(yQ _).1 hx with rfl|hx
    .exact⟨d.1,(Xz e d.2 f.key),b⟩
    .exact a.xi x (JG hx)
def aml{n s}(h:jP n s){c}(e:uu c):jP (n+1) (rcA s c).1:=by
 have a:=h.up;refine jP.ite (λ_=>a) λ_=>jP.ite (λ_=>a) λ_=>jP.ite (λ_=>a) λ_=>jP.ite (λ_=>a) λd=>jP.ite (λ_=>?_) λ_=>a;have f:=Cn λq=>by
  have d:=Cn d;unfold rcE at d;rw[aK λz=>q z.1] at d;exact q d
 have b:=Sd ⟨λx hx=>(h.xb x hx).2.2,λx hx=>(h.xi x hx).2.2,λx hx=>(h.xl x hx).2⟩ f;generalize (aU _ c.2.2.1).1=id at b;unfold rnA;split
 .have g:=vL (λz=>z.1) s.1 id;have i:=h.bl;refine abA a (by show(qu _ _ _).length<=_;rw[wx];omega) λx hx=>?_;rcases(yQ _).1 hx with rfl|hx
  .refine⟨e.nms,?_,b⟩;rcases Up with q|q
   .exact(h.xb _ q).2.1
   .rw[q];exact AZ
  .exact a.xb x (JG hx)
 split
 .have g:=vL (λz=>z.1) s.2.1 id;have i:=h.il;refine abB a (by show(qu _ _ _).length<=_;rw[wx];omega) λx hx=>?_;rcases(yQ _).1 hx with rfl|hx
  .refine⟨e.nms,?_,b⟩;rcases Up with q|q
   .exact(h.xi _ q).2.1
   .rw[q];exact AZ
  .exact a.xi x (JG hx)
 .refine⟨a.bl,a.il,by show(rnL _ _ _).length<=_;rw[abv];exact a.ll,a.dl,a.ml,a.xb,a.xi,λx hx=>?_⟩;rcases List.mem_or_eq_of_mem_set hx with hx|rfl
  .exact h.xl x hx
  .exact⟨e.nms,b⟩
def agU{n s}(h:jP n s){c}(d:uu c):jP (n+1) (doA s c).1:=by
 have a:=h.up;have f:=h.bl;have hi:=h.il;refine jP.ite (λ_=>?_) λ_=>jP.ite (λ_=>?_) λ_=>jP.ite (λ_=>a) λ_=>jP.ite (λ_=>a) λ_=>jP.ite (λ_=>?_) λ_=>jP.ite (λ_=>?_) λ_=>jP.ite (λ_=>?_) λ_=>jP.ite (λ_=>?_) λ_=>jP.ite (λ_=>?_) λ_=>jP.ite (λ_=>?_) λ_ =>
  jP.ite (λ_=>amk h d) λ_=>jP.ite (λ_=>aml h d) λ_=>a
 .unfold crS;exact jP.ite (λ_=>a) λ_=>jP.ite (λ_=>a) λ_=>jP.ite (λ_=>a) λ_=>jP.ite (λ_=>a) λ_=>jP.ite (λ_=>a) λb=>jP.ite (λ_=>a) λ_=>jP.ite (λ_=>a) λ_=>jP.ite (λ_=>a) λ_=>agT h d.nms (abz b) _
 .unfold dlS;exact jP.ite (λ_=>a) λ_=>jP.ite (λ_=>a) λ_=>ajH h _
 .unfold ctA;exact jP.ite (λ_=>a) λ_=>jP.ite (λ_=>a) λ_=>jP.ite (λ_=>a) λ_=>aby h _ _
 .unfold ctA;exact jP.ite (λ_=>a) λ_=>jP.ite (λ_=>a) λ_=>jP.ite (λ_=>a) λ_=>aby h _ _
 .unfold crI;refine jP.ite (λ_=>a) λ_=>jP.ite (λ_=>a) λ_=>jP.ite (λ_=>a) λ_=>jP.ite (λ_=>a) λb=>abB a (by rw[wx];omega) λx hx=>?_;rcases(yQ _).1 hx with rfl|hx
  .exact⟨d.nms,AZ,abz b⟩
  .exact a.xi x hx
 .unfold adF;exact jP.ite (λ_=>a) λ_=>jP.ite (λ_=>a) λ_=>abB a (by have:=vL (λz=>z.1) s.2.1 (aU (y7 s) c.2.2.1).1;omega) λx hx=>a.xi x (JG hx)
 .unfold crB;refine jP.ite (λ_=>a) λ_=>jP.ite (λ_=>a) λ_=>jP.ite (λ_=>a) λ_=>jP.ite (λ_=>a) λb=>jP.ite (λ_=>a) λ_=>?_;have e:jP (n+1) (crG s (if c.2.2.2.1=[] then [] else Cg s (Gc s c.2.2.2.1)) []<|Fe c.2.2.2.2.2.2.2.1).1:=by
   exact jP.ite (λ_=>a) λ_=>jP.ite (λ_=>a) λ_=>jP.ite (λ_=>a) λ_=>jP.ite (λ_=>a) λb=>jP.ite (λ_=>a) λ_=>agT h H4 (abz b) _
  refine abA e (by rw[wx];omega) λx hx=>?_;rcases(yQ _).1 hx with rfl|hx
  .exact⟨d.nms,AZ,abz b⟩
  .exact a.xb x hx
 .unfold adG;have g:=vL (λz=>z.1) s.1 (aU (Ed s) c.2.2.1).1;exact jP.ite (λ_=>a) λ_=>jP.ite (λ_=>a) λ_=>ajH (abA h ah λx hx=>h.xb x (JG hx)) _
abbrev Ih:=Int×wy×Int×Int×Int×ur×aj
abbrev j6:=List Ih×List Int×aj
def Fj{a:Type}(l:List a)(p:Nat->a->Bool):Bool:=@decide (∃(i:Nat) (x:a),l[i]?=aa x/\p i x=true) (Classical.propDecidable _)
def yU{α l p}:Fj l p=true↔∃(i:Nat) (x:α),l[i]?=aa x/\p i x=true:=@decide_eq_true_iff _ (Classical.propDecidable _)
def A2{α}{l:List α}{p}(h:∀i x,l[i]?=aa x->p i x=false):Fj l p=false:=by
 cases b:Fj l p with
 | false=>rfl
 | true=>obtain⟨i,x,c,a⟩:=yU.1 b;rw[h i x c] at a;cases a
def unE(e:Ih):Int:=if e.2.2.2.2.1=3 then 9223372036854775807 else e.2.2.2.1
def aiW(e:Ih):xD (e,())=aa (unE e,()):=by
 unfold xD unE;by_cases h:e.2.2.2.2.1=3<;>simp[h,ak,aD]
def Et(e:Ih):lf (e,())=aa (unE e,()):=by
 unfold lf unE;by_cases h:e.2.2.2.2.1=3<;>simp[h,ak,aD]
def wB(u:List Bool)(a:Int)(i:Nat)(e:Ih):Bool:=(u[i]?==aa false)&&(decide (e.2.2.2.2.1=1)&&decide (e.2.2.2.1<a))
def u7{α}{f:(Bool×Int×aj)×aj->Option (((Bool×Int×aj)×aj)⊕(Nat×(Bool×Int×aj)×aj))} a b (l:List α) (k:l.length<=1000) p
  (d:∀(i:Nat) e,l[i]?=aa e->f ((a,i,()),())=aa (if p i e=true then .inr (1,(b,i,()),()) else .inl ((a,aw .i64 i 1,()),())))
  (c:f ((a,(l.length:Int),()),())=aa (.inr (0,(a,(l.length:Int),()),()))) :
  (Fj l p=true/\∃i,Loop f ((a,0,()),())=aa (1,(b,i,()),()))\/(Fj l p=false/\∃i,Loop f ((a,0,()),())=aa (0,(a,i,()),())):=by
 rcases eE l (λi=>((a,i,()),())) p (λi x=>(1,(b,(i:Int),()),())) _ ah (λi x hx hi g=>by rw[d i x hx,g]) c with ⟨i,x,hx,j,_,h⟩|⟨hn,h⟩
 .exact .inl ⟨yU.2 ⟨i,x,hx,j⟩,i,h⟩
 .exact .inr ⟨A2 hn,_,h⟩
def Se{f:(Bool×Int×aj)×aj->Option (((Bool×Int×aj)×aj)⊕(Nat×(Bool×Int×aj)×aj))}{β}(g:Bool->β) l u (o:u.length=l.length) (m:l.length<=1000) a
  (n:∀(i:Nat) e b,l[i]?=aa e->u[i]?=aa b->f ((false,i,()),())=ak (ak (ak (nt b) (aD e.2.2.2.2.1 1) false) (aL e.2.2.2.1 a) false) (aa<|.inr (1,(true,i,()),())) (aa<|.inl ((false,aw .i64 i 1,()),())))
  (c:f ((false,(l.length:Int),()),())=aa (.inr (0,(false,(l.length:Int),()),()))) :
  ae (Loop f ((false,0,()),())) (λy=>ak (cm y.1 0) (aa<|g false) (aa<|g y.2.1.1))=aa (g<|Fj l<|wB u a):=by
 rcases u7 false true l m (wB u a) (λi e j=>by
  have hi:=av j;have k:u[i]?=aa u[i]:=ft ah;rw[n i e _ j k];unfold wB;rw[k];cases u[i]<;>by_cases d:e.2.2.2.2.1=1<;>by_cases h:e.2.2.2.1<a<;>simp[ak,nt,aD,aL,d,h]) c with ⟨d,i,h⟩|⟨d,i,h⟩
 .rw[h,d];rfl
 .rw[h,d];rfl
def Fk(r:j6)(u:List Bool)(p:Nat):Bool:=match r.2.1[p]? with
 | some a=>!Fj r.1 (wB u a)
 | none=>false
def Pb(b:List Int)(p:Nat)(e:Ih):Bool:=match b[p]? with|some a=>decide (a<e.2.2.1)|none=>false
def XD(b:List Int)(p:Nat)(e:Ih):Bool:=match(if p=0 then af else b[p-1]?) with|some a=>decide (unE e<a)|none=>false
def Sf pw (p:Nat) e:ak (aL p<|len pw) (ae (idx pw p) λy=>aa (aL y e.2.2.1)) (aa false)=aa (Pb pw p e):=by
 unfold Pb;rw[zx,s6];by_cases h:p<pw.length
 .rw[cW h,ft h];rfl
 .rw[cf h,Ev ah];rfl
def XE{a:List Int}{p e}(b:p<=a.length)(c:a.length<=1000):ak (aL 0 p) (ae (idx a<|cG .i64 p 1) λy=>aa (aL (unE e) y)) (aa false)=aa (XD a p e):=by
 unfold XD;cases p with
 | zero=>rfl
 | succ p =>
   rw[aH ah,du ah ah,show((p+1:Nat):Int)-1=p by omega,s6,Nat.add_sub_cancel,ft ah];rfl
def Fl(r:j6)(u:List Bool)(p k:Nat)(e:Ih):Bool :=
 (u[k]?==aa false)&&(!Pb r.2.1 p e&&(!XD r.2.1 p e&&!Fj r.1 (wB (u.set k true) e.2.2.1)))
def Z1(f e:Ih):Bool:=decide (f.2.2.2.2.1≠3)&&decide (f.2.2.2.1<e.2.2.1)
def yV(l:List Ih)(u:List Bool)(e:Ih):List Bool:=(l.zip u).map λx=>Z1 x.1 e||x.2
def Gk(s:aO)(c:wy):aO×ur:=if c.1=16 then(s,0,[],0,[],()) else((doA s c).1,(doA s c).2.1)
def en(r:j6)(q:aO×List Bool×Nat)(k:Int):Option (aO×List Bool×Nat) :=
 if k=-1 then(if Fk r q.2.1 q.2.2=true then aa ((q.1.1,q.1.2.1,q.1.2.2.1,q.1.2.2.2.1,[],()),q.2.1,q.2.2+1) else af)
 else if 0<=k then(match r.1[k.toNat]? with
  | some e=>if Fl r q.2.1 q.2.2 k.toNat e=true/\(e.2.2.2.2.1=1->(Gk q.1 e.2.1).2=e.2.2.2.2.2.1) then aa ((Gk q.1 e.2.1).1,yV r.1 (q.2.1.set k.toNat true) e,q.2.2) else af
  | none=>af)
 else af
def Ut(a b:ur):an (aD a.1 b.1) (an (bg a.2.1 b.2.1)<|an (aD a.2.2.1 b.2.2.1)<|an (bg a.2.2.2.1 b.2.2.2.1) true)=decide (a=b):=by
 obtain⟨c,d,e,f,_⟩:=a;obtain⟨g,h,i,j,_⟩:=b;by_cases k:c=g<;>by_cases l:d=h<;>by_cases m:e=i<;>by_cases n:f=j<;>simp[an,aD,bg]
def XF{S R}{f:S->Option (S⊕R)}(d:Int->List Bool->S) fin (l:List Ih) u w (q:u.length=l.length) (r:w.length=l.length) (c:Nat->Ih->Bool)
  (k:∀i x b,l[i]?=aa x->u[i]?=aa b->w[i]?=aa (c i x||b))
  (a:∀(i:Nat) x v,l[i]?=aa x->v.length=l.length->f (d i v)=aa (.inl<|d ((i+1:Nat):Int)<|if c i x=true then v.set i true else v)) (e:f (d l.length w)=aa (.inr fin)):Loop f (d 0 u)=aa fin:=by
 have:=dc l.length (λj=>d j (w.take j++u.drop j)) (λj m=>?_) (by
  rw[KE ah,List.drop_eq_nil_of_le ah,uC];exact e)
 .simpa using this
 .have hx:=ft m;have g:j<u.length:=ah;rw[a j _ _ hx cR];have h:=k j _ _ hx (ft g);have n:w.take (j+1)=w.take j++[c j l[j]||u[j]]:=by rw[xX,h];rfl
  have o:(w.take j).length=j:=cR;rw[(Cv g),n,xW];cases p:c j l[j] with
  | true =>
    rw[ List.set_append_right _ _ ah,o,Nat.sub_self];rfl
  | false=>simp
def JH{l u e}(a:u.length=l.length):(yV l u e).length=l.length:=by simp[yV,a]
def XG{l u e}{i:Nat}{x b}(a:l[i]?=aa x)(c:u[i]?=aa b):(yV l u e)[i]?=aa (Z1 x e||b):=by
 unfold yV;rw[KI,show _[i]?=aa (x,b) from ajf.2 ⟨a,c⟩];rfl
def Z2(x e:Ih):mc (x,e,())=aa (Z1 x e,()):=by
 unfold mc Z1;by_cases a:x.2.2.2.2.1=3<;>by_cases b:x.2.2.2.1<e.2.2.1<;>simp[ak,nt,aD,aL]
def agV{f}(l:List Ih) u (e:Ih) (d:u.length=l.length) (k:l.length<=1000)
  (g:∀i v,f ((i,()),v,())=cr (ak (aL i<|len l) (ae (idx l i) λa=>ae (mc (a,e,())) λb=>ae (ak b.1 (ak (within i<|len v) (ae (idx v i) λ_=>ae (idx v i) λ_=>ae (idx v i) λ_=>aa ((),kO v i true,())) af)<|some ((),v,())) λz=>aa (ay ((aw .i64 i 1,()),z.2.1,())))<|some<|az (0,(i,()),v,()))) :
  ∃j,Loop f ((0,()),u,())=aa ((j,()),yV l u e,()):=by
 refine⟨l.length,XF (λi v=>((i,()),v,())) _ l u (yV l u e) d (JH d) _ (λi x b c h=>XG c h) (λi x v c m=>?_) ?_⟩
 .have hi:=av c;rw[g,al hi,ao c,ab,Z2,aC ah];cases Z1 x e with
  | true=>rw[ aG ah dR,ao (ft ah)];rfl
  | false=>rfl
 .rw[g,aq];rfl
abbrev PlT:=aO×List Bool×Int×List Int×aj
abbrev QT:=aO×List Bool×Nat
def zP:PlT:=(([],[],[],[],[],()),[],0,[],())
def UI(q:QT)(a:List Int):PlT:=(q.1,q.2.1,(q.2.2:Int),a,())
def aiX(o:Option QT)(a:List Int)(k:Int):PlT×Bool×aj:=match o with|some q=>(UI q<|a++[k],true,())|none=>(zP,false,())
def adJ{β}(g:Bool->β) l {u} (d:u.length=l.length) (f:l.length<=1000) a:ae (Loop (TK l u a) ((false,0,()),())) (λy=>ak (cm y.1 0) (aa<|g false) (aa<|g y.2.1.1))=aa (g<|Fj l<|wB u a) :=
 Se g l u d f a (λj e b c h=>by
  unfold TK;rw[al<|av c,ai,ao c,ab,ao h,ab]) (by
  unfold TK;rw[aq,ag])
def Z3{β}(g:Bool->β) l {u} (d:u.length=l.length) (f:l.length<=1000) a:ae (Loop (LX l u a) ((false,0,()),())) (λy=>ak (cm y.1 0) (aa<|g false) (aa<|g y.2.1.1))=aa (g<|Fj l<|wB u a) :=
 Se g l u d f a (λj e b c h=>by
  unfold LX;dsimp only;rw[al<|av c,ai,ao c,ab,aG ah (by unfold len;have:=av c;omega),ai,ao h,ab]) (by
  unfold LX;rw[aq,ag])
def Cl(r:j6)(u:List Bool)(p:Nat):Bool:=Fj r.1 (λi e=>(u[i]?==aa false)&&decide (e.2.2.2.2.1=1))||decide (p<r.2.1.length)
def Sg{β}(g:Bool->β) r {u} (j:u.length=r.1.length) (h:r.1.length<=1000) (p:Nat):ae (Loop (IZ r.1 u) ((false,0,()),())) (λy=>ak (cm y.1 0) (aa<|g<|aL p<|len r.2.1) (aa<|g y.2.1.1))=aa (g<|Cl r u p):=by
 unfold Cl;rcases u7 (f:=IZ r.1 u) false true r.1 h (λi e=>(u[i]?==aa false)&&decide (e.2.2.2.2.1=1)) (λi e c=>by
  have hi:=av c;have d:u[i]?=aa u[i]:=ft ah;unfold IZ;rw[al hi,ao c,ab,ao d,ab,d];cases u[i]<;>by_cases a:e.2.2.2.2.1=1<;>simp[ak,nt,aD,a]) (by
  unfold IZ;rw[aq,ag]) with ⟨a,i,b⟩|⟨a,i,b⟩
 .rw[b,a];rfl
 .rw[b,a,zx];rfl
def Si{U} r {s u p e} (w:U) (g:u.length=r.1.length) (i:r.1.length<=1000) (hpw:r.2.1.length<=1000) (j:e.length<=1000) :
  I0 r.1 r.2.1 (UI (s,u,p) e) w=aa (aiX (en r (s,u,p)<|-1) e<|-1,w):=by
 unfold I0 en UI;dsimp only;rw[aQ rfl];cases c:r.2.1[p]? with
 | none =>
   have hlen:r.2.1.length<=p:=by
    rcases ug p r.2.1.length with h|h
    .rw[ft h] at c;cases c
    .exact h
   rw[qd,cW hlen,aK (by unfold Fk;rw[c];simp)];rfl
 | some a =>
   have k:=av c;have f:Fk r u p=!Fj r.1 (wB u a):=by unfold Fk;rw[c]
   rw[qd,cf ah,ao c,ab,adJ (λb=>((b,()),())) r.1 g i a];rcases Gm (Fj r.1 _) with d|d
   .rw[aK<|by rw[f,d];simp,d];rfl
   .rw[aQ<|by rw[f,d];rfl,d,cK ah,aJ cR,aC ah];rfl
def Sj{U}(r:j6){s u p q n}(w:U)(C:n<r.1.length)(D:u.length=r.1.length)(z:r.1.length<=1000)(E:p<=r.2.1.length)(t:r.2.1.length<=1000)(F:q.length<=1000)(G:A24 s)(H:∀e∈r.1,uu e.2.1) :
  I3 r.1 r.2.1 (UI (s,u,p) q) n w=aa (aiX (en r (s,u,p) n) q n,w):=by
 have l:=ft C;generalize r.1[n]=e at l;unfold I3 en UI;rw[aK ah,aQ ah,uB,l];dsimp only;have g:(u.set n true).length=r.1.length:=by simp[D]
 rw[ao l,ab,Sf,ab,aiW,ab,XE E t,ab];unfold Fl;have A:u[n]?=aa u[n]:=ft ah;rw[ao A,ab,A];cases u[n] with
 | true=>rfl
 | false =>
   rcases Gm (Pb r.2.1 p e) with m|m
   .rw[m];rfl
   rcases Gm (XD r.2.1 p e) with x|x
   .rw[m,x];rfl
   rw[m,x,cK ah,cK ah,aJ cR,aG ah dR,ab,ab,ab,C6,Z3 (λb=>((b,()),w)) r.1 g z,ab];rcases Gm (Fj r.1 _) with y|y
   .rw[y];rfl
   rw[y];have k:∀a,ak (aD e.2.2.2.2.1 1) (nt<|an (aD a.1 e.2.2.2.2.2.1.1) _) false=!decide (e.2.2.2.2.1=1->a=e.2.2.2.2.2.1):=λa=>by
    rw[Ut];by_cases I:e.2.2.2.2.1=1<;>by_cases J:a=e.2.2.2.2.2.1<;>simp[ak,nt,aD]
   obtain⟨j,B⟩:=agV (f:=afI r.1 e) r.1 _ e g z (λi v=>rfl);by_cases o:e.2.1.1=16
   .have c:Gk s e.2.1=_:=aQ o;rw[au o,k (0,[],0,[],()),c];by_cases d:(e.2.2.2.2.1=1->((0,[],0,[],()):ur)=e.2.2.2.2.2.1)
    .rw[cW d,Bool.not_true,aQ ⟨rfl,d⟩];exact ob B rfl
    .rw[cf d,aK λh=>d h.2];rfl
   .have c:Gk s e.2.1=_:=aK o;rw[ar o,agS G (H e<|eG l),ab,k,c];by_cases d:(e.2.2.2.2.1=1->(doA s e.2.1).2.1=e.2.2.2.2.2.1)
    .rw[cW d,aQ ⟨rfl,d⟩];exact ob B rfl
    .rw[cf d,aK λh=>d h.2];rfl
def adK{r}{q:QT}{k}(b:k≠-1)(c:¬(0<=k/\k<r.1.length)):en r q k=none:=by
 unfold en;rw[aK b];by_cases a:0<=k
 .rw[aQ a,Ev ah]
 .rw[aK a]
def agY(x:aO×j6×List Int×aj){i:Nat}{k}(f:x.2.2.1[i]?=aa k){s u p c}{z:aO}(g:u.length=x.2.1.1.length)(t:x.2.1.1.length<=5)(j:p<=x.2.1.2.1.length)(a:x.2.1.2.1.length<=1000)(b:c.length<=1000)
  (v:i<=1000) (l:A24 s) (m:∀e∈x.2.1.1,uu e.2.1) :
  (∃q,en x.2.1 (s,u,p) k=aa q/\eh x ((false,(i:Int),()),(s,u,(p:Int),c,()),z,())=aa (.inl ((false,((i+1:Nat):Int),()),(q.1,q.2.1,(q.2.2:Int),c++[k],()),z,()))) \/
  (en x.2.1 (s,u,p) k=af/\∃o,eh x ((false,i,()),(s,u,p,c,()),z,())=aa (.inr (1,(false,i,()),o,([],[],[],[],[],()),()))):=by
 unfold eh;rw[al<|av f,ao f,ab,aC ah];by_cases d:k=-1
 .subst d;rw[ show I0 x.2.1.1 x.2.1.2.1 (s,_) ()=_ from Si x.2.1 () g ah a b];cases en x.2.1 _ (-1) with
  | some q=>exact .inl ⟨q,rfl,rfl⟩
  | none=>exact .inr ⟨rfl,_,rfl⟩
 rw[ar d];by_cases h:0<=k/\k<x.2.1.1.length
 case neg =>
  refine .inr ⟨adK d h,?_⟩;by_cases r:0<=k
  .rw[bA r,aB dR];exact⟨_,rfl⟩
  .rw[cO ah];exact⟨_,rfl⟩
 obtain⟨n,rfl⟩:=UN h.1;rw[ aH dR,show I3 x.2.1.1 x.2.1.2.1 (s,_) n ()=_ from Sj x.2.1 () ah g ah j a b l m];cases en x.2.1 _ n with
 | some q=>exact .inl ⟨q,rfl,rfl⟩
 | none=>exact .inr ⟨rfl,_,rfl⟩
def wC(e:Ih):kH (e,())=aa (decide<|e.2.2.2.2.1=1,()):=rfl
def abD{e}(h:e.2.2.2.2.1=1):unE e=e.2.2.2.1:=by unfold unE;rw[aK ah]
def Sk r {u} (m:u.length=r.1.length) (k:r.1.length<=1000) (p:Nat):qM (r.1,r.2.1,u,p,())=aa (Fk r u p,()):=by
 unfold qM Fk;dsimp only;cases d:r.2.1[p]? with
 | none =>
   have hlen:r.2.1.length<=p:=by
    rcases ug p r.2.1.length with h|h
    .rw[ft h] at d;cases d
    .exact h
   rw[qd,cW hlen,ai]
 | some a =>
   have l:=av d;rw[qd,cf ah];rcases u7 (f:=p9 (r.1,r.2.1,u,p,())) false false r.1 k (wB u a) (λi e g=>by
    have hi:=av g;have j:u[i]?=aa u[i]:=ft ah;unfold p9 wB;rw[al hi,ao j,ao g,ao d,j,ab];cases u[i] with
    | true=>rfl
    | false =>
      by_cases b:e.2.2.2.2.1=1
      .rw[aE,ab,wC,ab,ab,Et,abD b,cW b];by_cases c:e.2.2.2.1<a<;>simp[ak,aL,c,ae]
      .rw[ ab,wC,cf b];simp[ak,ae]) (by
    unfold p9;rw[aq,ag]) with ⟨b,i,c⟩|⟨b,i,c⟩
   .rw[c];show _=aa (!Fj _ _,());rw[b];rfl
   .rw[c];show _=aa (!Fj _ _,());rw[b];rfl
def XH(r:j6){u}(t:u.length=r.1.length)(o:r.1.length<=1000){p}(q:p<=r.2.1.length)(g:r.2.1.length<=1000){k:Nat}{e}(h:r.1[k]?=aa e) :
  tU (r.1,r.2.1,u,p,k,())=aa (Fl r u p k e,()):=by
 unfold tU Fl;have s:=av h;have b:u[k]?=aa u[k]:=ft ah;rw[ao b,ab,b];cases u[k] with
 | true=>rfl
 | false =>
   rw[ ao h,ab,Sf,ab];rcases Gm (Pb r.2.1 p e) with j|j
   .rw[j];rfl
   rw[j,ab,Et,ab,XE q g];rcases Gm (XD r.2.1 p e) with l|l
   .rw[l];rfl
   rw[l];rcases u7 (f:=rN (r.1,r.2.1,u,p,k,())) false false r.1 o (wB (u.set k true) e.2.2.1) (λi f m=>by
    have hi:=av m;have n:u[i]?=aa u[i]:=ft ah;unfold rN wB;dsimp only;rw[al hi,ao n,ao m,ao h,ab];by_cases c:i=k
    .subst c;rw[aec ah,au rfl];cases u[i]<;>rfl
    .rw[List.getElem?_set_ne<|JR c,n,ar ah];cases u[i] with
     | true=>rfl
     | false =>
       by_cases a:f.2.2.2.2.1=1
       .rw[aE,ai,ab,wC,ab,ab,Et,abD a,cW a];by_cases d:f.2.2.2.1<e.2.2.1<;>simp[ak,aL,d,ae]
       .rw[ ab,wC,cf a];simp[ak,ae]) (by
    unfold rN;rw[aq,ag]) with ⟨a,i,d⟩|⟨a,i,d⟩
   .rw[d,a];rfl
   .rw[d,a];rfl
def Pc(r:j6){u:List Bool}(p:u.length=r.1.length)(w:r.1.length<=1000){k e}(o:r.1[k]?=aa e)(q:e.2.2.1<=9223372036854775807)(s:Fj r.1 (wB (u.set k true) e.2.2.1)=false) :
  qa (u,r.1,k,())=aa (yV r.1 (u.set k true) e,()):=by
 unfold qa;dsimp only;have t:=av o;have g:(u.set k true).length=r.1.length:=by simp[p]
 have d:=XF (f:=rP (u,r.1,k,())) (λi v=>((i,(),()),v,())) ((r.1.length,(),()),yV r.1 (u.set k true) e,()) r.1 _ (yV r.1 _ e) g (JH g)
  (λi f=>decide (i≠k)&&(decide (f.2.2.2.2.1≠1)&&decide (unE f<e.2.2.1))) (λi f b j l=>?_) (λi f v j x=>?_) ?_
 .rw[show app ([]) u=u from rfl,aJ cR,aG ah dR,ai,ao (ft ah)];exact ob d rfl
 .rw[XG j l];cases b with
  | true=>simp
  | false =>
    have a:i≠k:=λh=>by
     subst h;rw[aec ah] at l;cases l
    unfold Z1;by_cases c:f.2.2.2.2.1=1
    .have:¬f.2.2.2.1<e.2.2.1:=λh=>by
      have:=yU.2 ⟨i,f,j,show wB _ e.2.2.1 i f=true by unfold wB;rw[l];simp[c,h]⟩;rw[s] at this;cases this
     simp[c,this]
    .by_cases m:f.2.2.2.2.1=3
     .have:¬unE f<e.2.2.1:=by unfold unE;omega
      simp[m,this]
     .have:unE f=f.2.2.2.1:=by unfold unE;rw[aK m]
      simp[c,m,a,this]
 .have hi:=av j;unfold rP;dsimp only;rw[al hi,zx,cW ah,ao j,ao o,ab,wC,ab,ab,Et,ab,ab,aC ah];by_cases a:i=k
  .subst a;rw[au rfl,aK aT];rfl
  .rw[ar ah];by_cases c:f.2.2.2.2.1=1
   .rw[aK<|by simp[c],cW c];rfl
   .by_cases n:unE f<e.2.2.1
    .rw[aQ<|by simp[a,c,n],cf c,aE,ai,aH n,aG ah dR,ao (ft ah)];rfl
    .rw[aK<|by simp[n],cf c,aB ah];rfl
 .unfold rP;rw[aq];rfl
def agZ(x:aO×j6×List Int×aj){i:Nat}{k}(t:x.2.2.1[i]?=aa k){s u p}{z:aO}(m:u.length=x.2.1.1.length)(E:x.2.1.1.length<=5)(v:p<=x.2.1.2.1.length)(o:x.2.1.2.1.length<=1000)
  (F:i<=1000) (w:A24 s) (A:∀e∈x.2.1.1,uu e.2.1) (B:∀e∈x.2.1.1,e.2.2.1<=9223372036854775807) :
  (∃q,en x.2.1 (s,u,p) k=aa q/\eN x ((false,u,(p:Int),(i:Int),()),z,s,())=aa (.inl ((false,q.2.1,(q.2.2:Int),((i+1:Nat):Int),()),z,q.1,()))) \/
  (en x.2.1 (s,u,p) k=af/\∃y,eN x ((false,u,p,i,()),z,s,())=aa (.inr (1,(false,y),zS,s,()))):=by
 unfold eN;rw[al<|av t,ai,ao t,ab,aC (i:=i) ah];unfold en;by_cases r:k=-1
 .subst r;rw[ aQ rfl,Sk _ m ah];rcases Gm (Fk x.2.1 u p) with a|a
  .rw[a,aC ah];exact .inl ⟨_,aQ rfl,rfl⟩
  .rw[a];exact .inr ⟨aK aT,_,rfl⟩
 rw[ar r,aK r];by_cases f:0<=k
 case neg =>
  rw[aK f,aH ah];exact .inr ⟨rfl,_,rfl⟩
 obtain⟨n,rfl⟩:=UN f;rw[aQ f,aB f,uB,qd];cases c:x.2.1.1[n]? with
 | none =>
   have hlen:x.2.1.1.length<=n:=by
    rcases ug n x.2.1.1.length with h|h
    .rw[ft h] at c;cases c
    .exact h
   rw[cW hlen];exact .inr ⟨rfl,_,rfl⟩
 | some e =>
   have C:=av c;have b:=eG c;rw[cf ah,aE,ai,aE,ai,XH x.2.1 m ah v o c,ab,ab];rcases Gm (Fl x.2.1 u p n e) with a|a
   case inr =>
    rw[a];exact .inr ⟨aK<|λh=>by rw[a] at h;exact absurd h.1 Bool.false_ne_true,_,rfl⟩
   have D:Fj x.2.1.1 (wB (u.set n true) e.2.2.1)=false:=by
    have:=a;unfold Fl at this;simp at this;exact this.2.2.2
   rw[a,ao c,ab,O9 w (A e b),ab,ab,ab,wC,ab,ab,Pc x.2.1 m ah c (B e b) D];have d:(ak (aD e.2.1.1 16) ((),(0,([]),0,([]),()),s,()) ((),(doA s e.2.1).2.1,(doA s e.2.1).1,()))=((),(Gk s e.2.1).2,(Gk s e.2.1).1,()):=by
    unfold Gk;by_cases g:e.2.1.1=16
    .rw[au g,aQ g];rfl
    .rw[ar g,aK g];rfl
   rw[d,Ut];by_cases j:e.2.2.2.2.1=1
   .rw[cW j];by_cases l:(Gk s e.2.1).2=e.2.2.2.2.2.1
    .rw[cW l];exact .inl ⟨_,aQ ⟨a,λ_=>l⟩,rfl⟩
    .rw[cf l];exact .inr ⟨aK<|λh=>l (h.2 j),_,rfl⟩
   .rw[cf j];exact .inl ⟨_,aQ ⟨a,λh=>(j h).elim⟩,rfl⟩
def Cr(r:j6):aO×List Bool×Nat->List Int->Option (aO×List Bool×Nat)
 | q,[]=>aa q
 | q,k::t=>match en r q k with
   | some q=>Cr r q t
   | none=>af
structure Iv (r:j6) (n:Nat) (q:aO×List Bool×Nat):Prop where
 st:jP n q.1
 us:q.2.1.length=r.1.length
 pw:q.2.2<=r.2.1.length
def Iv.to{r n m q}(h:Iv r n q)(k:n<=m):Iv r m q:=⟨h.st.to k,h.us,h.pw⟩
def A3{r n q g k}(h:Iv r n q)(i:∀e∈r.1,uu e.2.1)(b:en r q k=aa g):Iv r (n+1) g:=by
 unfold en at b;split at b
 .split at b
  case isFalse=>cases b
  rename_i f;obtain rfl:=aI b;have c:=h.st.up;refine⟨⟨c.bl,c.il,c.ll,c.dl,aT,c.xb,c.xi,c.xl⟩,h.us,?_⟩;unfold Fk at f;cases d:r.2.1[q.2.2]? with
  | none=>rw[d] at f;cases f
  | some a=>exact av d
 .split at b
  case isFalse=>cases b
  cases d:r.1[k.toNat]? with
  | none=>rw[d] at b;cases b
  | some e =>
    rw[d] at b;dsimp only at b;split at b
    case isFalse=>cases b
    obtain rfl:=aI b;refine⟨?_,JH (by simp[h.us]),h.pw⟩;unfold Gk;split
    .exact h.st.up
    .exact agU h.st (i e<|eG d)
def ag0(x:aO×j6×List Int×aj)(r:x.2.1.1.length<=5)(s:x.2.1.2.1.length<=10)(n:∀e∈x.2.1.1,uu e.2.1)(o:x.2.2.1.length<=20) :
  ∀c b q d,x.2.2.1=b++c->Iv x.2.1 (40+b.length) q->d.length<=b.length ->
  (∃f j l,Cr x.2.1 q c=aa f/\Iv x.2.1 60 f/\Loop (eh x) ((false,(b.length:Int),()),(q.1,q.2.1,(q.2.2:Int),d,()),zS,())=aa (0,(false,j,()),(f.1,f.2.1,(f.2.2:Int),l,()),zS,())) \/
  (Cr x.2.1 q c=af/\∃j p,Loop (eh x) ((false,(b.length:Int),()),(q.1,q.2.1,(q.2.2:Int),d,()),zS,())=aa (1,(false,j,()),p,zS,())):=by
 intro c;induction c with
 | nil =>
   intro b q d g h u;rw[uC] at g;refine .inl ⟨q,b.length,d,rfl,h.to (by rw[<-g];omega),?_⟩;have v:eh x ((false,b.length,()),(q.1,q.2.1,q.2.2,d,()),zS,())=aa (.inr (0,(false,b.length,()),(q.1,q.2.1,q.2.2,d,()),zS,())):=by
    unfold eh;rw[g,aq,ag]
   rw[aN,v];rfl
 | cons k t w =>
   intro b q d g h u;have hlen:b.length<20:=by rw[g] at o;simp at o;omega
   have y:x.2.2.1[b.length]?=aa k:=by rw[g];simp
   rcases agY x y h.us r h.pw ah (by omega:d.length<=1000) ah (h.st.to ah).a n with ⟨f,i,m⟩|⟨i,p,m⟩
   .have:=w (b++[k]) f (d++[k]) (by rw[g];simp) (by rw[iU];exact A3 h n i) cR;rw[iU] at this;unfold Cr;rw[i,aN,m];exact this
   .unfold Cr;rw[i,aN,m];exact .inr ⟨rfl,_,_,rfl⟩
def ag1(x:aO×j6×List Int×aj)(n:x.2.1.1.length<=5)(o:x.2.1.2.1.length<=10)(l:∀e∈x.2.1.1,uu e.2.1)(p:∀e∈x.2.1.1,e.2.2.1<=9223372036854775807)(m:x.2.2.1.length<=20) :
  ∀c b q,x.2.2.1=b++c->Iv x.2.1 (40+b.length) q ->
  (∃d j,Cr x.2.1 q c=aa d/\Iv x.2.1 60 d/\Loop (eN x) ((false,q.2.1,(q.2.2:Int),(b.length:Int),()),zS,q.1,())=aa (0,(false,d.2.1,(d.2.2:Int),j,()),zS,d.1,())) \/
  (Cr x.2.1 q c=af/\∃y w,Loop (eN x) ((false,q.2.1,(q.2.2:Int),(b.length:Int),()),zS,q.1,())=aa (1,(false,y),zS,w)):=by
 intro c;induction c with
 | nil =>
   intro b q f g;rw[uC] at f;refine .inl ⟨q,b.length,rfl,g.to (by rw[<-f];omega),?_⟩;have r:eN x ((false,q.2.1,q.2.2,b.length,()),zS,q.1,())=aa (.inr (0,(false,q.2.1,q.2.2,b.length,()),zS,q.1,())):=by
    unfold eN;rw[f,aq,ag]
   rw[aN,r];rfl
 | cons k t s =>
   intro b q f g;have hlen:b.length<20:=by rw[f] at m;simp at m;omega
   have u:x.2.2.1[b.length]?=aa k:=by rw[f];simp
   rcases agZ x u g.us n g.pw ah ah (g.st.to ah).a l p with ⟨d,h,i⟩|⟨h,y,i⟩
   .have:=s (b++[k]) d (by rw[f];simp) (by rw[iU];exact A3 g l h);rw[iU] at this;unfold Cr;rw[h,aN,i];exact this
   .unfold Cr;rw[h,aN,i];exact .inr ⟨rfl,_,_,rfl⟩
def XI r {u} (j:u.length=r.1.length) (g:r.1.length<=1000) (p:Nat):tV (r.1,r.2.1,u,p,())=aa (!Cl r u p,()):=by
 unfold tV Cl;rcases u7 (f:=rQ (r.1,r.2.1,u,_)) false false r.1 g (λi e=>(u[i]?==aa false)&&decide (e.2.2.2.2.1=1)) (λi e c=>by
  have hi:=av c;have d:u[i]?=aa u[i]:=ft ah;unfold rQ;rw[al hi,ai,ao d,ao c,ab,d];cases u[i] with
  | true=>rfl
  | false =>
    rw[aE,ai,ab,wC,ab,ab];by_cases a:e.2.2.2.2.1=1<;>simp[ak,a]) (by
  unfold rQ;rw[aq,ag]) with ⟨a,i,b⟩|⟨a,i,b⟩
 .rw[b,a];rfl
 .rw[b,a];dsimp only;rw[qd];by_cases h:p<r.2.1.length
  .rw[cW h,cf ah];rfl
  .rw[cf h,cW ah];rfl
def adL(c:Int)(s:aO)(r:j6)(o:List Int):aO×Bool×aj :=
 if c=0 then(match Cr r (s,List.replicate r.1.length false,0) o with
  | some q=>if Cl r q.2.1 q.2.2=true then(zS,false,()) else(q.1,true,())
  | none=>(zS,false,()))
 else(zS,false,())
def Z4{s}{r:j6}{o c}(h:dE (r,())=aa (c,()))(i:r.1.length<=5)(d:r.2.1.length<=10)(k:∀e∈r.1,uu e.2.1)(l:o.length<=20)(m:jP 40 s) :
  rM (s,r,o,())=aa (adL c s r o):=by
 unfold rM adL;dsimp only;rw[h,ab];by_cases a:c=0
 case neg=>rw[ar a,aK a];rfl
 rw[au a,aQ a,show inside 0 _ _=true from aM ah dR ah,cK ah];rcases ag0 (s,r,o,()) i d k l o [] (s,List.replicate r.1.length false,0) [] rfl ⟨m,aT,aT⟩ aT with ⟨q,j,p,f,n,g⟩|⟨f,j,t,g⟩
 .refine ob g ?_;rw[f];dsimp only;refine ob (Sg (λb=>((b,()),())) r n.us ah _) ?_;cases Cl r q.2.1 q.2.2<;>rfl
 .refine ob g ?_;rw[f];rfl
def Z5{s}{r:j6}{o c}(g:ld (r,())=aa (c,()))(h:r.1.length<=5)(b:r.2.1.length<=10)(i:∀e∈r.1,uu e.2.1)(k:∀e∈r.1,e.2.2.1<=9223372036854775807)(l:o.length<=20)(m:jP 40 s) :
  tW (s,r,o,())=aa (adL c s r o):=by
 unfold tW adL;dsimp only;rw[g,ab];by_cases a:c=0
 case neg=>rw[ar a,aK a];rfl
 rw[au a,aQ a,show inside 0 _ _=true from aM ah dR ah,cK ah];rcases ag1 (s,r,o,()) h b i k l o [] (s,List.replicate r.1.length false,0) rfl ⟨m,aT,aT⟩ with ⟨q,j,d,n,f⟩|⟨d,y,w,f⟩
 .refine ob f ?_;rw[d];dsimp only;rw[ XI r n.us ah];cases Cl r q.2.1 q.2.2<;>rfl
 .refine ob f ?_;rw[d];rfl
def aiY{r}(c:∀e∈r.1,uu e.2.1):∀{o n q b},Iv r n q->Cr r q o=aa b->Iv r (n+o.length) b:=by
 intro o;induction o with
 | nil=>intro n q b h a;obtain rfl:=aI a;exact h
 | cons k t d =>
   intro n q b h a;unfold Cr at a;cases hs:en r q k with
   | none=>rw[hs] at a;cases a
   | some f=>rw[hs] at a;exact(d (A3 h c hs) a).to cR
def pn(r:j6)(a:aO->Bool):Nat->QT->List Int->Option (List Int)
 | 0,_,_=>af
 | n+1,q,b=>if(!Cl r q.2.1 q.2.2&&a q.1)=true then aa b else
   match(en r q<|-1).bind λc=>pn r a n c (b++[-1]) with
   | some o=>aa o
   | none=>(List.range' 0 r.1.length).findSome? λ(k:Nat)=>(en r q (k:Int)).bind λc=>pn r a n c (b++[(k:Int)])
def XJ(r:j6)(q:QT):Nat:=(r.2.1.length-q.2.2)+q.2.1.count false
def Kz e:∀l u,(yV l u e).count false<=u.count false
 | [],u=>by simp[yV]
 | x::l,[]=>by simp[yV]
 | x::l,b::u=>by
   have:=Kz e l u;unfold yV at this⊢;simp;cases b<;>cases Z1 x e<;>simp<;>omega
def Pd{r n q i k}(h:Iv r n q)(b:en r q k=aa i):XJ r i<XJ r q:=by
 unfold en at b;split at b
 .split at b
  case isFalse=>cases b
  rename_i f;obtain rfl:=aI b;unfold Fk at f;unfold XJ;cases d:r.2.1[q.2.2]? with
  | none=>rw[d] at f;cases f
  | some a=>have:=av d;dsimp only;omega
 .split at b
  case isFalse=>cases b
  cases d:r.1[k.toNat]? with
  | none=>rw[d] at b;cases b
  | some e =>
    rw[d] at b;dsimp only at b;split at b
    case isFalse=>cases b
    rename_i hn;obtain rfl:=aI b;have g:q.2.1[k.toNat]?=aa false:=by
     have:=hn.1;unfold Fl at this;simp at this;exact this.1
    have c:=av g;have j:q.2.1[k.toNat]=false:=by rw[ft c] at g;exact aI g
    have l:=Kz e r.1 (q.2.1.set k.toNat true);have m:(q.2.1.set k.toNat true).count false=q.2.1.count false-1:=by
     rw[List.count_set c,j];simp
    have o:=List.count_pos_iff.2 (j▸aer c);unfold XJ;dsimp only;omega
def rO{U:Type}(a:List Int->U->U)(w:U)(o:Option (List Int)):(Bool×aj)×U:=((o.isSome,()),match o with|some o=>a o w|none=>w)
def abE{U r f n q c}(w:U)(h)(Sl)(d:∀k b,en r q k=aa b->Sl ((r,UI b<|c++[k],()),w)=aa (rO h w<|pn r f n b<|c++[k]))
  (j:Iv r 60 q) (u:r.1.length<=5) (p:r.2.1.length<=10) (t:∀e∈r.1,uu e.2.1) (g:c.length<=1000) :
  ∀m i,i+m=r.1.length->ae (Loop (Hw Sl ((r,UI q c,()),w)) ((false,i,()),w)) (λl=>ak (cm l.1 0) (aa ((false,()),l.2.2)) (aa ((l.2.1.1,()),l.2.2)))=aa (rO h w<|(List.range' i m).findSome? λ(k:Nat)=>(en r q k).bind λb=>pn r f n b (c++[(k:Int)]))
 | 0,i,v=>by
   have s:Hw Sl ((r,UI q c,()),w) ((false,(i:Int),()),w)=aa (.inr (0,(false,i,()),w)):=by
    unfold Hw;rw[show i=r.1.length by omega,aq,ag]
   rw[aN,s];rfl
 | m+1,i,v=>by
   have s:Hw Sl ((r,UI q c,()),w) ((false,i,()),w)=match(en r q i).bind λb=>pn r f n b (c++[(i:Int)]) with
     | some o=>aa (.inr (1,(true,i,()),h o w))
     | none=>aa (.inl ((false,((i+1):Int),()),w)):=by
    unfold Hw;dsimp only;rw[al ah,(Sj r w ah j.us ah j.pw ah g j.st.a t),ab,aC ah];cases hs:en r _ i with
    | none=>rfl
    | some b =>
      unfold aiX;rw[ d _ _ hs,UK];cases pn r f n b _<;>rfl
   rw[aN,s,List.range'_succ,List.findSome?_cons];cases (en r q i).bind λb=>pn r f n b _ with
   | some o=>rfl
   | none=>exact(abE w h Sl d j u p t g m (i+1) ah)
def XK{U}(g:PlT->U->Option (Bool×aj))(p:PlT->U->U) i l w (S:Nat->((j6×PlT×aj)×U)->Option ((Bool×aj)×U)) (t:∀n x,S (n+1) x=I4 g p (S n) x)
  {r} (hn:r.1.length<=5) (hpw:r.2.1.length<=10) (hC:∀e∈r.1,uu e.2.1) (s:∀q a,Iv r 60 q->g (UI q a) w=aa (i q.1,())/\p (UI q a) w=l a w) :
  ∀n q a,Iv r (60-XJ r q) q->XJ r q<n->XJ r q<=50->a.length+XJ r q<=100->S n ((r,UI q a,()),w)=aa (rO l w<|pn r i n q a)
 | 0,_,_,_,h,_,_=>ah
 | n+1,q,a,m,v,y,z=>by
   have j:=m.to (by omega:60-XJ r q<=60);have u:∀k d,en r q k=aa d->S n ((r,UI d<|a++[k],()),w)=aa _:=λk d hs=>by
    have A:=Pd m hs;exact XK g p i l w S t hn hpw hC s n d _ ((A3 m hC hs).to ah) ah ah cR
   have f:=abE w l _ u j hn hpw hC ah r.1.length 0 ah;have c:NO (S n) ((r,UI q a,()),w) w=aa (rO l w<|match(en r q<|-1).bind λd=>pn r i n d (a++[-1]) with
     | some o=>aa o
     | none=>(List.range' 0 r.1.length).findSome? λ(k:Nat)=>(en r q k).bind λd=>pn r i n d (a++[(k:Int)])):=by
    unfold NO;rw[show I0 r.1 r.2.1 _ w=_ from Si r w m.us ah ah ah,ab];cases hs:en r _ (-1) with
    | none=>exact f
    | some d =>
      unfold aiX;rw[ u _ _ hs,UK];cases pn r i n d _ with
      | some o=>rfl
      | none=>exact f
   rw[t];unfold pn;refine ob (Sg (λb=>((b,()),w)) r m.us ah q.2.2) ?_;cases Cl r q.2.1 q.2.2 with
   | true=>exact c
   | false =>
     rw[(s q a j).1];cases i q.1 with
     | true=>show aa ((true,()),p (UI q a) w)=_;rw[(s q a j).2];rfl
     | false=>exact c
def XL{r e}:∀n q d o,pn r e n q d=aa o->∃b a,o=d++b/\Cr r q b=aa a/\Cl r a.2.1 a.2.2=false/\e a.1=true
 | 0,_,_,_,h=>by cases h
 | n+1,q,d,o,h=>by
   unfold pn at h;split at h
   .rename_i f;obtain rfl:=aI h;simp at f;exact⟨[],q,aT,rfl,f.1,f.2⟩
   .have key:∀k,((en r q k).bind λa=>pn r e n a (d++[k]))=aa o->∃b a,o=d++b/\Cr r q b=aa a/\Cl r a.2.1 a.2.2=false/\e a.1=true:=λk c=>by
     cases hs:en r q k with
     | none=>rw[hs] at c;cases c
     | some g =>
       rw[hs] at c;obtain⟨b,a,i,j,l⟩:=XL n g _ o c;exact⟨k::b,a,by rw[i];simp,by unfold Cr;rw[hs];exact j,l⟩
    split at h
    .rename_i p m;obtain rfl:=aI h;exact key _ m
    .obtain⟨k,_,c⟩:=List.exists_of_findSome?_eq_some h;exact key _ c
def XM{r}(b:∀e∈r.1,uu e.2.1):∀{o n q c},Iv r n q->Cr r q o=aa c->o.length<=XJ r q
 | [],_,_,_,_,_=>pq _
 | k::t,n,q,c,h,a=>by
   unfold Cr at a;cases hs:en r q k with
   | none=>rw[hs] at a;cases a
   | some d =>
     rw[hs] at a;have:=XM b (A3 h b hs) a;have:=Pd h hs;simp;omega
def yW{c:Type}(a b:c):Bool:=@decide (a=b) (Classical.propDecidable _)
def A4{α}{a b:α}:yW a b=true↔a=b:=@decide_eq_true_iff _ (Classical.propDecidable _)
def akK{α}{a b:α}{c}(h:c=true↔a=b):c=yW a b:=by
 rw[Pu,h,A4]
def aiZ{α}[DecidableEq α](a b:α):decide (a=b)=yW a b:=akK QO
def jG{α β}{f:(Bool×Int×aj)×aj->Option (((Bool×Int×aj)×aj)⊕(Nat×(Bool×Int×aj)×aj))}(g:Bool->β)(l m:List α)(q:l.length<=1000000)
  (n:l.length=m.length->∀i x y,l[i]?=aa x->m[i]?=aa y->x∈l->i<l.length->i<m.length->f ((false,i,()),())=aa (ak (yW x y) (.inl ((false,aw .i64 i 1,()),()))<|.inr (1,(false,i,()),())))
  (o:l.length=m.length->f ((false,(l.length:Int),()),())=aa (.inr (0,(false,(l.length:Int),()),()))) :
  ak (nt<|aD (len l)<|len m) (aa<|g false) (ae (Loop f ((false,0,()),())) λd=>ak (cm d.1 0) (aa<|g true) (aa<|g d.2.1.1))=aa (g<|yW l m):=by
 rw[HD];by_cases a:l.length=m.length
 case neg =>
  rw[cf a,show yW l m=false from Bool.eq_false_iff.2 λh=>a (by rw[A4.1 h])];rfl
 rw[cW a];rcases eE l (λi=>((false,i,()),())) (λi x=>match m[i]? with|some y=>!yW x y|none=>false) _ _ ah (λi x hx hi p=>by
  have j:i<m.length:=ah;have b:=ft j;rw[n a i x _ hx b (eG hx) hi j,p,b];rcases Gm (yW x m[i]) with h|h
  .rw[aK<|by simp[h],h];rfl
  .rw[aQ<|by simp[h],h];rfl) (o a) with ⟨i,x,hx,k,_,h⟩|⟨hn,h⟩
 .rw[h,show yW l m=false from Bool.eq_false_iff.2 λh=>by
   have e:=A4.1 h;subst e;rw[hx] at k;have:yW x x=true:=A4.2 rfl;simp[this] at k]
  rfl
 .rw[h,show yW l m=true from A4.2 (KH λi=>by
   rcases ug i l.length with c|c
   .have hx:=ft c;have b:=ft (show i<m.length by omega);have:=hn i _ hx;rw[b] at this;have e:=A4.1 (by simpa using this);rw[hx,b,e]
   .rw[Ev c,Ev ah])]
  rfl
def BW(l m:List Tx)(h:l.length<=4294967296):dY (l,m,())=aa (yW l m,()):=by rw[B8 l m h,aiZ]
def Pe(l m:List It)(h:qQ l):fI (l,m,())=aa (yW l m,()):=by
 refine jG (λb=>(b,())) l m (by have:=h.1;omega) (λc i x y d e s f a=>?_) (λc=>?_)
 .unfold fh;rw[al f,al a,ao d,ao e,ab,ab];obtain⟨g,j,k,_⟩:=x;obtain⟨n,o,p,_⟩:=y;by_cases q:g=n<;>by_cases a:j=o<;>by_cases r:k=p<;>simp[ak,nt,an,bg,yW,q,a,r]
 .unfold fh;rw[aq];rfl
def XN(l m:List uX)(h:l.length<=1000000):jq (l,m,())=aa (yW l m,()):=by
 refine jG (λb=>(b,())) l m h (λc i x y d e p f a=>?_) (λc=>?_)
 .unfold gj;rw[al f,al a,ao d,ao e,ab,ab];obtain⟨g,j,_⟩:=x;obtain⟨k,n,_⟩:=y;by_cases o:g=k<;>by_cases a:j=n<;>simp[ak,nt,an,bg,aD,yW,o,a]
 .unfold gj;rw[aq];rfl
def Z6(l m:List Aa)(d:l.length<=1000000)(h:∀x∈l,mq x.2.1/\qQ x.2.2.2.2.2.1):kE (l,m,())=aa (yW l m,()):=by
 refine jG (λb=>(b,())) l m d (λe i x y f g c j a=>?_) (λe=>?_)
 .unfold gK;rw[al j,al a,ao f,ao g,ab,ab,BW _ _ (h x c).1.small,Pe _ _ (h x c).2];obtain⟨k,n,o,p,q,r,_⟩:=x;obtain⟨s,t,u,v,w,z,_⟩:=y;by_cases A:k=s<;>by_cases a:n=t<;>by_cases B:o=u<;>by_cases C:p=v<;>by_cases D:q=w<;>by_cases E:r=z<;>simp[ak,nt,ae,bg,yW,A,a,B,C,D,E]
 .unfold gK;rw[aq];rfl
def XO(l m:List jZ)(d:l.length<=1000000)(h:∀x∈l,mq x.2.1/\qQ x.2.2.2.2.1):jn (l,m,())=aa (yW l m,()):=by
 refine jG (λb=>(b,())) l m d (λe i x y f g c j a=>?_) (λe=>?_)
 .unfold gh;rw[al j,al a,ao f,ao g,ab,ab,BW _ _ (h x c).1.small,Pe _ _ (h x c).2];obtain⟨k,n,o,p,q,_⟩:=x;obtain⟨r,s,t,u,v,_⟩:=y;by_cases w:k=r<;>by_cases a:n=s<;>by_cases z:o=t<;>by_cases A:p=u<;>by_cases B:q=v<;>simp[ak,nt,ae,bg,yW,w,a,z,A,B]
 .unfold gh;rw[aq];rfl
def XP(l m:List cA)(c:l.length<=1000000)(h:∀x∈l,x.2.2.1.length<=4294967296):jo (l,m,())=aa (yW l m,()):=by
 refine jG (λb=>(b,())) l m c (λd i x y e f g j a=>?_) (λd=>?_)
 .unfold gi;rw[al j,al a,ao e,ao f,ab,ab,BW _ _ (h x g)];obtain⟨k,n,o,p,q,r,s,_⟩:=x;obtain⟨t,u,v,w,z,A,B,_⟩:=y;by_cases C:k=t<;>by_cases a:n=u<;>by_cases D:o=v<;>by_cases E:p=w<;>by_cases F:q=z<;>by_cases G:r=A<;>cases s<;>cases B<;>simp[ak,nt,ae,bg,aD,Yc,yW,C,a,D,E,F,G]
 .unfold gi;rw[aq];rfl
def Z7{s}(h:aiP s)(t:aO):mP (s,t,())=aa (yW s t,()):=by
 unfold mP;dsimp only;rw[Z6 _ _ h.bl h.xb,XO _ _ h.il h.xi,XP _ _ h.ll (λx a=>(h.xl x a).small),BW _ _ (by have:=h.dl;omega),XN _ _ h.ml];obtain⟨b,c,d,e,f,_⟩:=s;obtain⟨g,i,j,k,l,_⟩:=t;by_cases m:b=g<;>by_cases n:c=i<;>by_cases o:d=j<;>by_cases p:e=k<;>by_cases q:f=l<;>simp[ak,ae,yW,m,n,o,p]
def XQ(l m:List Tx)(h:l.length<=1000000):bG (l,m,())=aa (yW l m,()):=by
 refine jG (λb=>(b,())) l m h (λa i x y c d g e j=>?_) (λa=>?_)
 .unfold cN;rw[al e,ao c,ao d,ab,ab];by_cases f:x=y<;>simp[ak,nt,bg,yW,f]
 .unfold cN;rw[aq];rfl
def Uu(l m:List Tx)(h:mq l):bG (l,m,())=aa (yW l m,()):=XQ l m (by have:=h.1;omega)
def XR(l m:List It)(h:qQ l):dZ (l,m,())=aa (yW l m,()):=by
 refine jG (λb=>(b,())) l m (by have:=h.1;omega) (λc i x y d e s f a=>?_) (λc=>?_)
 .unfold eT;rw[al f,ao d,ao e,ab,ab];obtain⟨g,j,k,_⟩:=x;obtain⟨n,o,p,_⟩:=y;by_cases q:g=n<;>by_cases a:j=o<;>by_cases r:k=p<;>simp[ak,nt,an,bg,yW,q,a,r]
 .unfold eT;rw[aq];rfl
def adM(l m:List uX)(h:l.length<=1000000):fb (l,m,())=aa (yW l m,()):=by
 refine jG (λb=>(b,())) l m h (λc i x y d e p f a=>?_) (λc=>?_)
 .unfold eD;rw[al f,ao d,ao e,ab,ab];obtain⟨g,j,_⟩:=x;obtain⟨k,n,_⟩:=y;by_cases o:g=k<;>by_cases a:j=n<;>simp[ak,nt,an,bg,aD,yW,o,a]
 .unfold eD;rw[aq];rfl
def akL(x y:Aa)(h:mq x.2.1/\qQ x.2.2.2.2.2.1):rR (x,y,())=aa (yW x y,()):=by
 unfold rR;rw[Uu _ _ h.1,XR _ _ h.2];obtain⟨a,b,c,d,e,f,_⟩:=x;obtain⟨g,i,j,k,l,m,_⟩:=y;by_cases n:a=g<;>by_cases o:b=i<;>by_cases p:c=j<;>by_cases q:d=k<;>by_cases r:e=l<;>by_cases s:f=m<;>simp[ak,ae,bg,yW,n,o,p,q,r]
def ag2(x y:jZ)(h:mq x.2.1/\qQ x.2.2.2.2.1):rS (x,y,())=aa (yW x y,()):=by
 unfold rS;rw[Uu _ _ h.1,XR _ _ h.2];obtain⟨a,b,c,d,e,_⟩:=x;obtain⟨f,g,i,j,k,_⟩:=y;by_cases l:a=f<;>by_cases m:b=g<;>by_cases n:c=i<;>by_cases o:d=j<;>by_cases p:e=k<;>simp[ak,ae,bg,yW,l,m,n,o]
def ag3(x y:cA)(h:mq x.2.2.1):rT (x,y,())=aa (yW x y,()):=by
 unfold rT;rw[Uu _ _ h];obtain⟨a,b,c,d,e,f,g,_⟩:=x;obtain⟨i,j,k,l,m,n,o,_⟩:=y;by_cases p:a=i<;>by_cases q:b=j<;>by_cases r:c=k<;>by_cases s:d=l<;>by_cases t:e=m<;>by_cases u:f=n<;>cases g<;>cases o<;>simp[ak,ae,bg,aD,Yc,yW,p,q,r,s]
def Z8{s}(h:aiP s)(t:aO):tX (s,t,())=aa (yW s t,()):=by
 refine ob (jG (λb=>((b,()),())) s.1 t.1 h.bl (λa i x y c d e f g=>?_) λa=>?_) ?_
 .unfold wM;rw[al f,ao c,ao d,ab,ab,akL _ _ (h.xb x e)];cases yW x y<;>rfl
 .unfold wM;rw[aq];rfl
 refine ob (jG (λb=>((b,()),())) s.2.1 t.2.1 h.il (λa i x y c d e f g=>?_) λa=>?_) ?_
 .unfold wN;rw[al f,ao c,ao d,ab,ab,ag2 _ _ (h.xi x e)];cases yW x y<;>rfl
 .unfold wN;rw[aq];rfl
 refine ob (jG (λb=>((b,()),())) s.2.2.1 t.2.2.1 h.ll (λa i x y c d e f g=>?_) λa=>?_) ?_
 .unfold wO;rw[al f,ao c,ao d,ab,ab,ag3 _ _ (h.xl x e)];cases yW x y<;>rfl
 .unfold wO;rw[aq];rfl
 rw[XQ _ _ h.dl,adM _ _ h.ml];obtain⟨j,k,l,m,n,_⟩:=s;obtain⟨o,p,q,r,u,_⟩:=t;by_cases v:j=o<;>by_cases g:k=p<;>by_cases w:l=q<;>by_cases z:m=r<;>by_cases A:n=u<;>simp[ak,ae,yW,v,g,w,z]
end Go.Ge
