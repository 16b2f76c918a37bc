import Derived.Test.YtgklgliokhbcnaaGreatDoorPlI
set_option linter.unusedSectionVars false
set_option linter.unusedVariables false
set_option linter.unusedSimpArgs false
set_option linter.defProp false
open Option renaming some->aa,none->af
open Sum renaming inl->ay,inr->az
namespace Go.Ge
variable [Lp]
abbrev Z9:ur:=(0,[],0,[],())
def abF a:an (aD a.1 0) (an (bg a.2.1 [])<|an (aD a.2.2.1 0)<|an (bg a.2.2.2.1 []) true)=decide (a=Z9):=Ut a Z9
def XS(e:Ih):Bool:=(decide (e.2.2.2.2.1=1)&&decide (e.2.2.1<e.2.2.2.1))||((decide (e.2.2.2.2.1=2)&&(decide (e.2.2.1<e.2.2.2.1)&&decide (e.2.2.2.2.2.1=Z9)))||(decide (e.2.2.2.2.1=3)&&(decide (e.2.2.2.1=0)&&decide (e.2.2.2.2.2.1=Z9))))
def XT(e:Ih)(a:Int):Bool:=decide (a=e.2.2.1)||(decide (a=e.2.2.2.1)||(decide (e.2.2.1<a)&&(decide (e.2.2.2.2.1=3)||decide (a<e.2.2.2.1))))
def Sn(e f:Ih):Bool:=decide (f.1=e.1)&&(decide (f.2.2.2.2.1=3)||decide (e.2.2.1<=f.2.2.2.1))
def Ib(l:List Ih)(i:Nat):Int:=if i=0 then 0 else match l[i-1]? with|some e=>e.2.2.1|none=>0
noncomputable def Uv(r:j6)(i:Nat)(e:Ih):Bool:=decide (e.2.2.1<=Ib r.1 i)||(!XS e||(Fj (r.1.take i) (λ_ f=>Sn e f)||Fj r.2.1 λ_ a=>XT e a))
def Sp(l:List Int):Prop:=∀(k:Nat) a b,l[k]?=aa a->l[k+1]?=aa b->a<b
noncomputable def Pg(r:j6):Bool:=!Fj r.1 (Uv r)&&@decide (Sp r.2.1) (Classical.propDecidable _)
def adN(e:Ih) a:vE (e,a,())=aa (!XT e a,()):=by
 unfold vE XT;by_cases g:a=e.2.2.1
 .simp[ak,nt,aD,g]
 by_cases d:a=e.2.2.2.1
 .rw[au d,cW d];simp[ak,nt]
 rw[ar g,ar d,cf g,cf d];by_cases f:a<e.2.2.1
 .have:¬e.2.2.1<a:=ah;simp[ak,nt,aL,f,this]
 .have b:e.2.2.1<a:=ah;by_cases h:e.2.2.2.2.1=3
  .simp[ak,nt,aD,aL,f,b,h]
  .by_cases i:a<e.2.2.2.1
   .have:¬e.2.2.2.1<a:=ah;simp[ak,nt,aD,aL,f,b,h,i,this]
   .have:e.2.2.2.1<a:=ah;simp[ak,nt,aD,aL,f,b,i,this]
def XU(e:Ih):ox (e,())=aa (XS e,()):=by
 unfold ox XS;rw[abF];by_cases a:e.2.2.2.2.1=1
 .simp[ak,aD,aL,a]
 by_cases b:e.2.2.2.2.1=2
 .simp[ak,aD,aL,b]
 by_cases d:e.2.2.2.2.1=3
 .simp[ak,aD,d]
 .simp[ak,aD,a,b,d]
def adO(a:(Int×Int×Int×aj)×j6×aj){i:Nat}{e:Ih}(g:a.1.2.2.1=i)(t:a.2.1.1.length<=1000) :
  ae (Loop (jw a) ((0,0,()),e,())) (λb=>ak (cm b.1 0) (aa ((false,()),b.2.2.1,())) (aa ((cl 0 b.2.1.1,()),b.2.2.1,())))=aa ((Fj (a.2.1.1.take i)<|λ_ f=>Sn e f,()),e,()):=by
 have hs:sub a.2.1.1 0 (minus a.1.2.2.1 0)=a.2.1.1.take i:=by rw[g];unfold sub minus;simp
 have k:(a.2.1.1.take i).length<=1000:=cR;rcases eE (f:=jw a) (a.2.1.1.take i) (λj=>((0,j,()),e,())) (λ_ f=>Sn e f) (λj f=>(1,(j,j,()),e,())) _ ah (λj f d l m=>by
  unfold jw Sn;rw[hs,al l,ao d,ab,m];by_cases n:f.1=e.1<;>by_cases o:f.2.2.2.2.1=3<;>by_cases p:e.2.2.1<=f.2.2.2.1<;>simp[ak,nt,aD,cl,n,o,p]) (by
  unfold jw;rw[hs,aq,ag]) with ⟨j,f,d,q,_,h⟩|⟨hn,h⟩
 .refine ob h ?_;rw[yU.2 ⟨j,f,d,q⟩];dsimp only;rw[hJ,ag,bA ah]
 .refine ob h ?_;rw[A2 hn];rfl
def ag4(b:(Int×Int×Int×aj)×j6×aj){e:Ih}(m:b.2.1.2.1.length<=1000) :
  ae (Loop (jx b) ((0,0,()),e,())) (λd=>ak (cm d.1 0) (aa ((false,()),d.2.2.1,())) (aa ((cl 0 d.2.1.1,()),d.2.2.1,())))=aa ((Fj b.2.1.2.1<|λ_ a=>XT e a,()),e,()):=by
 rcases eE (f:=jx b) b.2.1.2.1 (λj=>((0,j,()),e,())) (λ_ a=>XT e a) _ _ ah (λj a g i k=>by
  unfold jx;dsimp only;rw[al i,ao g,ab,k,adN];cases XT e a<;>rfl) (by
  unfold jx;rw[aq,ag]) with ⟨j,f,g,l,_,h⟩|⟨hn,h⟩
 .refine ob h ?_;rw[yU.2 ⟨j,f,g,l⟩];dsimp only;rw[hJ,ag,bA ah]
 .refine ob h ?_;rw[A2 hn];rfl
def Ph{l i e}(h:l[i]?=aa e):Ib l (i+1)=e.2.2.1:=by
 unfold Ib;rw[aK ah,Nat.add_sub_cancel,h]
def adP r (l:r.1.length<=1000) (d:r.2.1.length<=1000) :
  (Fj r.1 (Uv r)=true/\∃a b,Loop (gv (r,())) (((0:Int),(0:Int),(0:Int),()),r,())=aa (1,(1,a,b,()),r,())) \/
  (Fj r.1 (Uv r)=false/\∃a b,Loop (gv (r,())) ((0,0,0,()),r,())=aa (0,(0,a,b,()),r,())):=by
 rcases eE (f:=gv (r,())) r.1 (λi=>((0,Ib r.1 i.toNat,i,()),r,())) (Uv r) _ _ ah (λi e g m n=>by
  unfold gv Uv;dsimp only;rw[al m,ao g,show inside 0 i _=true from aM ah ah dR,uB,uB,Ph g];refine ob (adO _ rfl l) ?_;refine ob (ag4 _ d) ?_;rw[XU,n,tZ];by_cases k:e.2.2.1<=Ib r.1 i
  .rw[cW k];rfl
  .rw[cf k];cases XS e<;>cases Fj _ _<;>cases Fj r.2.1 _<;>rfl) (by
  unfold gv;rw[aq,ag,uB]) with ⟨j,f,o,d,_,h⟩|⟨hn,h⟩
 .exact .inl ⟨yU.2 ⟨j,f,o,d⟩,_,_,h⟩
 .exact .inr ⟨A2 hn,_,_,h⟩
def akM e last:ak (nt<|ak (nt<|ak (nt<|ak (nt<|ak (nt<|cl e.2.2.1 last) (aL e.2.2.2.2.1 1) true) (aL 3 e.2.2.2.2.1) true) (ak (aD e.2.2.2.2.1 3) (nt<|aD e.2.2.2.1 0) false) true)
  (ak (nt<|aD e.2.2.2.2.1 3) (cl e.2.2.2.1 e.2.2.1) false) true)
  (ak (nt<|aD e.2.2.2.2.1 1) (nt<|decide<|e.2.2.2.2.2.1=Z9) false) true=(decide (e.2.2.1<=last)||!XS e):=by
 unfold XS;simp only[akq,oC,tZ,aba,aa9];simp only[nt];generalize e.2.2.1=b,e.2.2.2.1=n,e.2.2.2.2.1=t,e.2.2.2.2.2.1=a;by_cases j:b<=last
 .simp[j]
 have hn:decide (n<=b)=!decide (b<n):=by by_cases h:b<n<;>simp[h]<;>omega
 rw[hn];rcases(by omega:(t=1/\¬t<1/\¬3<t/\t≠3/\t≠2)\/(t=2/\¬t<1/\¬3<t/\t≠3/\t≠1)\/(t=3/\¬t<1/\¬3<t/\t≠1/\t≠2)\/(t≠1/\t≠2/\t≠3/\(t<1\/3<t))) with ⟨d,g,i,f,k⟩|⟨d,g,i,f,k⟩|⟨d,g,i,f,k⟩|⟨d,g,i,f⟩
 .by_cases h:b<n<;>simp[ d]
 .by_cases h:b<n<;>by_cases l:a=Z9<;>simp[j,d,h,l]
 .by_cases h:n=0<;>by_cases l:a=Z9<;>simp[j,d]
 .rcases f with f|f<;>simp[ d,g,i,f]
def aaa r (C:r.1.length<=1000) (o:r.2.1.length<=1000) :
  (Fj r.1 (Uv r)=true/\∃a b,Loop (iT (r,())) ((false,(0:Int),(0:Int),()),())=aa (1,(false,a,b,()),())) \/
  (Fj r.1 (Uv r)=false/\∃a b,Loop (iT (r,())) ((false,0,0,()),())=aa (0,(false,a,b,()),())):=by
 have v:∀(p:(Bool×Int×Int×aj)×aj) (i:Nat) e,p.1.2.2.1=i->i<=r.1.length ->
   (Fj (r.1.take i) (λ_ f=>Sn e f)=true/\∃j,Loop (p7 (r,()) p e) _=aa _)\/_:=λp i e q x =>
  u7 false false _ cR _ (λj f m=>by
   have y:=av m;rw[dw] at y;rw[kn,aQ ah] at m;unfold p7 Sn;dsimp only;rw[ aH ah,ao m,ab];by_cases d:f.1=e.1<;>by_cases g:f.2.2.2.2.1=3<;>by_cases l:e.2.2.1<=f.2.2.2.1<;>simp[ak,nt,aD,cl,d,g,l]) (by
   unfold p7;dsimp only;rw[ dw,aB ah,ag])
 have z:∀e,(Fj r.2.1 (λ_ a=>XT e a)=true/\∃j,Loop (p8 (r,()) e) _=aa _)\/_:=λe =>
  u7 false false r.2.1 o _ (λj a m=>by
   unfold p8 XT;rw[al<|av m,ai,ao m,ab,ab,ab,ab];by_cases d:a=e.2.2.1
   .rw[au d,cW d];rfl
   rw[ar d,cf d,ag];by_cases g:a=e.2.2.2.1
   .rw[au g,cW g];rfl
   rw[ar g,cf g,ag];by_cases l:e.2.2.1<a
   .rw[aH l,cW l,ai];by_cases n:e.2.2.2.2.1=3
    .rw[au n,cW n];rfl
    .rw[ar n,cf n,ag,ab,aba];by_cases A:a<e.2.2.2.1<;>simp[ak,A]
   .rw[aB ah,cf l];rfl) (by
   unfold p8;rw[aq,ag])
 rcases eE (f:=iT (r,())) r.1 (λi=>((false,Ib r.1 i.toNat,i,()),())) (Uv r) (λi e=>(1,(false,(if(decide _||!XS e)=true then Ib r.1 i else e.2.2.1,_)),())) _ ah (λi e t q B=>by
  unfold iT Uv;rw[al q,ao t,ab,uB,uB,Ph t,abF,akM,B];cases u:(decide (e.2.2.1<=Ib r.1 i)||!XS e) with
  | true =>
    rw[ <-U1,u];rfl
  | false =>
    rw[ <-U1,u];rcases v ((false,Ib r.1 i,i,()),()) i e rfl ah with ⟨d,j,g⟩|⟨d,j,g⟩
    .refine ob g ?_;rw[d];rfl
    .refine ob g ?_;rw[d];rcases z e with ⟨l,k,n⟩|⟨l,k,n⟩
     .refine ob n ?_;rw[l];rfl
     .refine ob n ?_;rw[l];rfl) (by
  unfold iT;rw[aq,ag,uB]) with ⟨j,f,m,o,_,h⟩|⟨hn,h⟩
 .exact .inl ⟨yU.2 ⟨j,f,m,o⟩,_,_,h⟩
 .exact .inr ⟨A2 hn,_,_,h⟩
def Pj{l:List Int}{k b}:(l.drop 1)[k]?=aa b↔l[k+1]?=aa b:=by
 rw[vM,U4]
def XV{l}:Sp l↔∀(k:Nat) b,(l.drop 1)[k]?=aa b->∀a,l[k]?=aa a->a<b :=
 ⟨λh k b d a f=>h k a b f (Pj.1 d),λh k a b f d=>h k b (Pj.2 d) a f⟩
def ag5(r:j6)(u:r.2.1.length<=1000) :
  ae (Loop (mf (r,())) ((false,1,()),())) (λt=>ak (cm t.1 0) (aa (true,())) (aa (t.2.1.1,())))=aa (@decide (Sp r.2.1)<|Classical.propDecidable _,()):=by
 rcases eE (f:=mf (r,())) (r.2.1.drop 1) (λi=>((false,i+1,()),())) (λi b=>match r.2.1[i]? with|some a=>decide (b<=a)|none=>false) (λi b=>(1,(false,i+1,()),())) _ cR (λi b l hi g=>by
  have m:=Pj.1 l;have p:=av m;have n:r.2.1[i]?=aa r.2.1[i]:=ft ah;unfold mf;dsimp only;rw[show i+1=((i+1:Nat):Int) by omega,al p,ao m,ab,du ah ah,show((i+1:Nat):Int)-1=i by omega,ao n,ab,n,aC ah,tZ];by_cases h:b<=r.2.1[i]<;>simp[ak,h]) (by
  unfold mf;rw[aB<|by unfold len;simp;omega,ag]) with ⟨j,b,l,d,_,h⟩|⟨hn,h⟩
 .refine ob h ?_;have o:¬Sp r.2.1:=λq=>by
   cases g:r.2.1[j]? with
   | none=>rw[g] at d;cases d
   | some a =>
     rw[g] at d;have:=XV.1 q j b l a g;have:=fy d;omega
  rw[@decide_eq_false _ (Classical.propDecidable _) o];rfl
 .refine ob h ?_;have q:=XV.2 λk b l a g=>by
   have:=hn k b l;rw[g] at this;have:=xV this;omega
  rw[@decide_eq_true _ (Classical.propDecidable _) q];rfl
def adQ(r:j6)(h:r.1.length<=1000)(g:r.2.1.length<=1000):vG (r,())=aa (Pg r,()):=by
 unfold vG Pg;rcases aaa r h g with ⟨d,a,b,f⟩|⟨d,a,b,f⟩
 .rw[f,d];rfl
 .rw[f,d];exact ag5 r g
def ag6 a b:tS (a,b,())=aa (decide<|a<b,()):=by
 unfold tS rL;rw[kv];rfl
def upP(l:List Int):Prop:=∀(k:Nat) a b,l[k]?=aa a->l[k+1]?=aa b->a<=b
def Uw l (u:l.length<=1000):gg (l,())=aa (@decide (upP l)<|Classical.propDecidable _,()):=by
 unfold gg;dsimp only;rw[du dR dR];rcases eE (f:=e8 (l,())) (l.drop 1) (λj=>((false,(len l-1)-j,()),())) (λj _=>match l[l.length-1-j]?,l[l.length-2-j]? with|some b,aa a=>decide (b<a)|_,_=>false) (λj _=>(1,(false,(len l-1)-j,()),())) _ cR (λj x hx t o=>by
  have d:j+1<l.length:=by simp at t;omega
  have g:l[l.length-1-j]?=aa (l[l.length-1-j]'ah):=ft ah;have i:l[l.length-2-j]?=aa (l[l.length-2-j]'ah):=ft ah;unfold e8;dsimp only;rw[show len l-1-j=((l.length-1-j:Nat):Int) by unfold len;omega,aH ah,ao g,ab,du ah ah,show _-1=((l.length-2-j:Nat):Int) by omega,ao i,ab,ag6,ab,g,i,
   show len l-1-_=((l.length-2-j:Nat):Int) by unfold len;omega]
  by_cases h:l[l.length-1-j]'ah<l[l.length-2-j]'ah<;>simp[ak,h]) (by
  unfold e8;rw[aB<|by unfold len;simp;omega,ag]) with ⟨j,x,hx,p,_,h⟩|⟨hn,h⟩
 .have d:j+1<l.length:=by have:=av hx;simp at this;omega
  rw[show((false,_),())=((false,len l-1-0,()),()) by rw[aeG]];refine ob h ?_;dsimp only;have m:¬upP l:=λn=>by
   have g:l[l.length-1-j]?=aa _:=ft ah;have i:l[l.length-2-j]?=aa _:=ft ah;rw[g,i] at p;have:=n _ _ _ i (by rw[show l.length-2-j+1=l.length-1-j by omega];exact g);have:=fy p;omega
  rw[@decide_eq_false _ (Classical.propDecidable _) m];rfl
 .rw[show((false,_),())=((false,len l-1-0,()),()) by rw[aeG]];refine ob h ?_;have n:upP l:=λk a b o q=>by
   have d:=av q;have hd:(l.drop 1)[l.length-2-k]?=aa _:=ft cR;have:=hn _ _ hd;rw[show l.length-1-_=k+1 by omega,show l.length-2-_=k by omega,o,q] at this;have:=xV this;omega
  rw[@decide_eq_true _ (Classical.propDecidable _) n];rfl
def XW(l:List Int):(Lib.compact l).length=l.length↔∀k a b,l[k]?=aa a->l[k+1]?=aa b->a≠b:=by
 unfold Lib.compact Lib.compactUpTo;rw[zK];have i:(List.range l.length).length=l.length:=Sy;constructor
 .intro h k a b m j;have d:=av j;have:=(ai8.1<|h.trans i.symm) _ (Mm.2 d);have:=fy this;rcases this with this|this
  .omega
  .have f:l.toArray[k+1]! = b:=by simp[j]
   have g:l.toArray[k+1-1]! = a:=by simp[m]
   rw[f,g] at this;exact λh=>this h.symm
 .intro h;refine(ai8.2 λk n=>?_).trans i;have d:=Mm.1 n;refine cW ?_;cases k with
  | zero=>exact .inl rfl
  | succ k =>
    refine .inr ?_;have f:l.toArray[k+1]! = l[k+1]'(d):=by simp[d]
    have g:l.toArray[k+1-1]! = l[k]'ah:=by simp[show k<l.length by omega]
    rw[f,g];exact λe=>h k _ _ (ft ah) (ft d) e.symm
def ag7 l (m:l.length<=1000):tT (l,())=aa (@decide (Sp l)<|Classical.propDecidable _,()):=by
 unfold tT la;dsimp only;rw[Uw l m,ab,cK ah];have d:Sp l↔upP l/\(Lib.compact l).length=l.length:=by
  rw[XW];constructor
  .intro h;exact⟨λk a b f g=>by have:=h k a b f g;omega,λk a b f g=>by have:=h k a b f g;omega⟩
  .intro h k a b f g;have n:=h.1 k a b f g;have o:=h.2 k a b f g;omega
 by_cases i:upP l
 .rw[@decide_eq_true _ (Classical.propDecidable _) i,ai,ai,ab,HD];by_cases j:(Lib.compact l).length=l.length
  .rw[cW j,@decide_eq_true _ (Classical.propDecidable _) (d.2 ⟨i,j⟩)]
  .rw[cf j,@decide_eq_false _ (Classical.propDecidable _) λh=>j (d.1 h).2]
 .rw[@decide_eq_false _ (Classical.propDecidable _) i,@decide_eq_false _ (Classical.propDecidable _) λh=>i (d.1 h).1];rfl
def ag8(r:j6)(h:r.1.length<=1000)(g:r.2.1.length<=1000):dE (r,())=aa (if Pg r=true then 0 else 1,()):=by
 unfold Pg;rcases adP r h g with ⟨d,a,b,f⟩|⟨d,a,b,f⟩
 .refine ob f ?_;rw[d];rfl
 .refine ob f ?_;rw[d,ag7 _ g];cases @decide _ (Classical.propDecidable _)<;>rfl
def aab(r:j6)(a:r.1.length<=1000)(b:r.2.1.length<=1000):∃c,dE (r,())=aa (c,())/\ld (r,())=aa (c,()):=by
 refine⟨_,ag8 r a b,?_⟩;unfold ld;rw[adQ r a b];cases Pg r<;>rfl
structure an7 (r:j6):Prop where
 ev:r.1.length<=5
 pw:r.2.1.length<=10
 calls:∀e∈r.1,uu e.2.1
def adR(r:j6):∃b,C2 (r,())=aa (b,())/\(b=true->r.2.1.length<=10):=by
 rcases se (f:=tQ (r,())) r.1 20 (λi=>((false,i,()),())) (λ_ e=>decide (100<e.2.2.2.2.2.1.2.1.length)||decide (16384<e.2.2.2.2.2.1.2.2.2.1.length)) (λi e=>(1,(false,i,()),())) (λn=>_) ah (λi e a d g j=>by
  unfold tQ;dsimp only;rw[al d,aH ah,ao a,ab,ab,fi (c:=100) rfl,fi (c:=16384) rfl,j];by_cases k:100<e.2.2.2.2.2.1.2.1.length<;>by_cases l:16384<e.2.2.2.2.2.1.2.2.2.1.length<;>simp[ak,nt,ae,k,l]) (by
  unfold tQ;rw[qf (c:=20) rfl,ag]) with ⟨i,e,d,a,m,_,h⟩|⟨hn,h⟩
 .exact⟨false,ob h rfl,λq=>by cases q⟩
 .refine⟨_,ob h rfl,λq=>?_⟩;rw[ ej (c:=10) rfl,oC] at q;exact fy (aei.1 q).2
def adS(s:aO)(r:j6):∃b,C3 (s,r,())=aa (b,())/\(b=true->aiv s/\an7 r):=by
 have a:=Xy;obtain⟨d,a⟩:∃d,∀c,qK (c,())=aa (d c,())/\(d c=true->uu c):=⟨λc=>Classical.choose _,λc=>Su (a c)⟩;rcases se (f:=tR (s,r,())) r.1 5 (λi=>((false,i,()),())) (λ_ e=>!d e.2.1) _ (λn=>_) ah (λi e j g o p=>by
  unfold tR;dsimp only;rw[al g,aH ah,ao j,ab,(a _).1,p];cases d e.2.1<;>rfl) (by
  unfold tR;rw[qf (c:=5) rfl,ag]) with ⟨i,e,g,j,z,_,h⟩|⟨hn,h⟩
 .exact⟨false,ob h rfl,λq=>by cases q⟩
 .obtain⟨t,k,u⟩:=RD s;obtain⟨v,m,x⟩:=adR r;cases t with
  | false=>exact⟨false,ob h (ob k rfl),λq=>by cases q⟩
  | true =>
    by_cases l:r.1.length<=5
    .cases v with
     | false=>exact⟨false,ob h (ob k<|by dsimp only;rw[ej (c:=5) rfl,cW l,ai,ai,m];rfl),λq=>by cases q⟩
     | true =>
       refine⟨true,ob h (ob k<|by rw[ej (c:=5) rfl,cW l,m];rfl),λ_=>⟨u rfl,l,x rfl,λe j=>?_⟩⟩;obtain⟨i,g⟩:=bc.1 j;have y:=av g;have:=hn i e ah g;exact(a _).2 (by simpa using this)
    .exact⟨false,ob h (ob k<|by rw[ej (c:=5) rfl,cf l];rfl),λq=>by cases q⟩
def aiv.n24{s}(h:aiv s)(b:BkS s):jP 40 s:=⟨h.base.m40.2,h.base.m40.1,by have:=h.anY;omega,by have:=h.amd;omega,by have:=h.mts;omega,λx a=>⟨h.base.bn x a,(h.base.bm x a).2,(b.bl x a).1⟩,λx a=>⟨h.base.sH x a,(h.base.im x a).2,(b.il x a).1⟩,λx a=>⟨h.base.ln x a,by have:=(h.ids x a).1;omega⟩⟩
def Ic{f}{r:j6}(o:r.1.length<=5)(b:∀a,f a=cr (ak (aL a.1.2.1<|len r.1) (ae (idx r.1 a.1.2.1) λd=>aa (ay ((((ak (nt<|aD d.2.1.1 16) ((aw .i64 a.1.1 1,()),()) ((a.1.1,()),())).1).1,aw .i64 a.1.2.1 1,()),())))<|some<|az (0,(a.1.1,a.1.2.1,()),()))) :
  ∃c j,c<=5/\Loop f ((0,0,()),())=aa ((c,j,()),()):=by
 obtain⟨t,⟨_,p⟩,g,_⟩:=qe (f:=f) r.1 (λs i=>((s,i,()),())) (λs i x=>if x.2.1.1=16 then s else s+1) _ (λs i=>0<=s/\s<=i) ah (λs i x k l m n=>by
  rw[b];dsimp only;rw[al l,ao k,ab,m];by_cases h:x.2.1.1=16
  .rw[au h,aQ h];exact⟨rfl,ah⟩
  .rw[ar h,aK h,eV ah ah];exact⟨rfl,ah⟩) (λs n=>by rw[b,aq];rfl) 0 ⟨ah,aT⟩
 exact⟨t,_,ah,g⟩
def q0(s:aO)(r:j6):QT:=(s,List.replicate r.1.length false,0)
def abG{s r}(b:r.1.length<=5)(a:r.2.1.length<=10):XJ r (q0 s r)<=15:=by
 unfold XJ q0;simp;omega
def ag9{s r}(b:r.1.length<=5)(a:r.2.1.length<=10)(d:jP 40 s):Iv r (60-XJ r (q0 s r)) (q0 s r):=by
 have:=abG (s:=s) b a;exact(show Iv r 40 _ from⟨d,by simp[q0],by simp[q0]⟩).to ah
section
variable {s:aO} {r:j6} {c:Int} (hn:r.1.length<=5) (hpw:r.2.1.length<=10) (hC:∀e∈r.1,uu e.2.1) (hs:jP 40 s)
include hn hpw hC hs
def DF{U}(a:PlT->U->Option (Bool×aj))(b:PlT->U->U) d f w (S:Nat->((j6×PlT×aj)×U)->Option ((Bool×aj)×U)) (h:∀n x,S (n+1) x=I4 a b (S n) x) (i:∀q g,Iv r 60 q->a (UI q g) w=aa (d q.1,())/\b (UI q g) w=f g w) :
  S 40 ((r,UI (q0 s r) [],()),w)=aa (rO f w<|pn r d 40 (q0 s r) []):=by
 have j:=abG (s:=s) hn hpw;exact XK a b d f w S h hn hpw hC i 40 _ [] (ag9 hn hpw hs) ah ah cR
def adT(b:dE (r,())=aa (c,())):fO (s,r,())=aa (if c=0 then((pn r (λ_=>true) 40 (q0 s r) []).isSome,0,()) else(false,c,())):=by
 unfold fO;rw[b,ab];by_cases a:c=0
 case neg=>rw[ar a,aK a];rfl
 obtain⟨n,j,f,d⟩:=Ic hn (λ_=>rfl);rw[au a,aQ a];refine ob d ?_;dsimp only;rw[aB ah,show inside 0 _ _=true from aM ah dR ah,cK ah];exact ob (DF hn hpw hC hs (λ_ _=>aa _) (λ_ w=>w) _ (λ_ w=>w) () bV (λ_ _=>rfl) λ_ _ _=>⟨rfl,rfl⟩) rfl
def adU(b:dE (r,())=aa (c,())):jz (s,r,())=aa (if c=0 then(match pn r (λ_=>true) 40 (q0 s r) [] with|some o=>(o,0,())|none=>([],3,())) else([],c,())):=by
 unfold jz;rw[b,ab];by_cases a:c=0
 case neg=>rw[ar a,aK a];rfl
 obtain⟨n,j,f,d⟩:=Ic hn (λ_=>rfl);rw[au a,aQ a];refine ob d ?_;dsimp only;rw[aB ah,show inside 0 _ _=true from aM ah dR ah,cK ah];refine ob (DF hn hpw hC hs (λ_ _=>aa _) (λp _=>(p.2.2.2.1,())) (λ_=>true) (λo _=>(o,())) _ bU (λ_ _=>rfl) λ_ _ _=>⟨rfl,rfl⟩) ?_;cases pn r _ 40 _ []<;>rfl
def aha(t:aO)(b:dE (r,())=aa (c,())):qN (s,r,t,())=aa (if c=0 then((pn r (λs=>yW s t) 40 (q0 s r) []).isSome,0,()) else(false,c,())):=by
 unfold qN;rw[b,ab];by_cases a:c=0
 case neg=>rw[ar a,aK a];rfl
 obtain⟨n,j,g,d⟩:=Ic hn (λ_=>rfl);rw[au a,aQ a];refine ob d ?_;dsimp only;rw[aB ah,show inside 0 _ _=true from aM ah dR ah,cK ah];exact ob (DF (U:=aO×aj) hn hpw hC hs (λp w=>tX (p.1,w.1,())) (λ_ w=>w) (λs=>yW s t) (λ_ w=>w) (t,()) cE (λ_ _=>rfl) λq _ f=>⟨show tX _=aa _ from Z8 (f.st.slf<|b0 _) t,rfl⟩) rfl
end
noncomputable def fbF(a:List aO)(s:aO):Bool:=match a with|[]=>true|t::_=>yW s t
def XX{r fin j n q v}(Sl)(f:∀k d,en r q k=aa d->Sl (d.1,r.1,r.2.1,d.2.1,(d.2.2:Int),fin,())=aa ((pn r j n d<|v++[k]).isSome,()))
  (x:Iv r 60 q) (H:r.1.length<=5) (C:r.2.1.length<=10) (E:∀e∈r.1,uu e.2.1) (F:∀e∈r.1,e.2.2.1<=9223372036854775807) :
  ∀m i,i+m=r.1.length->ae (Loop (hH Sl (q.1,r.1,r.2.1,q.2.1,(q.2.2:Int),fin,())) ((false,i,()),())) (λG=>ak (cm G.1 0) (aa (false,())) (aa (G.2.1.1,())))=aa (((List.range' i m).findSome? λ(k:Nat)=>(en r q k).bind λd=>pn r j n d (v++[(k:Int)])).isSome,())
 | 0,i,I=>by
   have D:hH Sl (q.1,r.1,r.2.1,q.2.1,(q.2.2:Int),fin,()) ((false,(i:Int),()),())=aa (.inr (0,(false,i,()),())):=by
    unfold hH;dsimp only;rw[show i=r.1.length by omega,aq];rfl
   rw[aN,D];rfl
 | m+1,i,I=>by
   have hi:i<r.1.length:=ah;have t:=x.us;have l:=ft hi;generalize r.1[i]=e at l;have g:=eG l;have D:hH Sl (q.1,r.1,r.2.1,q.2.1,q.2.2,fin,()) ((false,i,()),())=aa (if((en r q i).bind λd=>pn r j n d (v++[(i:Int)])).isSome=true
     then .inr (1,(true,i,()),()) else .inl ((false,((i+1):Int),()),())):=by
    unfold hH;dsimp only;rw[al hi,al ah,aC ah,XH r t ah x.pw ah l,ab];have b:en r q i=if Fl r q.2.1 q.2.2 i e=true/\(e.2.2.2.2.1=1->(Gk q.1 e.2.1).2=e.2.2.2.2.2.1) then aa ((Gk q.1 e.2.1).1,yV r.1 (q.2.1.set i true) e,q.2.2) else none:=by
     unfold en;rw[aK ah,aQ ah,uB,l]
    rcases Gm (Fl r q.2.1 q.2.2 i e) with p|p
    case inr =>
     rw[show en r q i=af from b.trans (aK λh=>by rw[p] at h;exact absurd h.1 Bool.false_ne_true),p];rfl
    have J:Fj r.1 (wB (q.2.1.set i true) e.2.2.1)=false:=by
     have:=p;unfold Fl at this;simp at this;exact this.2.2.2
    rw[p,ao l,ab,O9 x.st.a (E e g),ab,ab,ab,wC,ab,ab,Pc r t ah l (F e g) J];have u:(ak (aD e.2.1.1 16) ((),(0,([]),0,([]),()),q.1,()) ((),(doA q.1 e.2.1).2.1,(doA q.1 e.2.1).1,()))=((),(Gk q.1 e.2.1).2,(Gk q.1 e.2.1).1,()):=by
     unfold Gk;by_cases z:e.2.1.1=16
     .rw[au z,aQ z];rfl
     .rw[ar z,aK z];rfl
    rw[u,Ut];have go:_->ae (Sl _) (λy=>ak y.1 (aa<|az (1,(true,(i:Int),()),())) (aa<|ay ((false,((i+1):Int),()),()))) =
      aa (if((en r q i).bind λd=>pn r j n d (v++[(i:Int)])).isSome=true then _ else .inl _):=λK=>by
     rw[aQ ⟨p,K⟩] at b;rw[f _ _ b,b,UK];cases pn r j n _ _<;>rfl
    by_cases A:e.2.2.2.2.1=1
    .rw[cW A];by_cases B:(Gk q.1 e.2.1).2=e.2.2.2.2.2.1
     .rw[cW B];exact go λ_=>B
     .rw[show en r q i=af from b.trans (aK λh=>B (h.2 A)),cf B];rfl
    .rw[cf A];exact go λh=>(A h).elim
   rw[aN,D,List.range'_succ,List.findSome?_cons];cases (en r q i).bind λd=>pn r j n d _ with
   | some o=>rfl
   | none=>exact(XX Sl f x H C E F m (i+1) ah)
def KA{r}(b:List aO)(y:r.1.length<=5)(m:r.2.1.length<=10)(v:∀e∈r.1,uu e.2.1)(z:∀e∈r.1,e.2.2.1<=9223372036854775807) :
  ∀n q p,Iv r (60-XJ r q) q->XJ r q<n->XJ r q<=50->eU n (q.1,r.1,r.2.1,q.2.1,(q.2.2:Int),b,())=aa ((pn r (fbF b) n q p).isSome,())
 | 0,_,_,_,h,_=>ah
 | n+1,q,p,j,B,C=>by
   have u:=j.to (by omega:60-XJ r q<=60);have A:∀k g,en r q k=aa g->eU n _=aa ((pn r _ n g<|p++[k]).isSome,()):=λk g hs=>by
    have D:=Pd j hs;exact KA b y m v z n g _ ((A3 j v hs).to ah) ah ah
   have i:=XX _ A u y m v z r.1.length 0 ah;have d:qb (eU n) (q.1,r.1,r.2.1,q.2.1,q.2.2,b,())=aa ((match(en r q<|-1).bind λg=>pn r (fbF b) n g (p++[-1]) with
     | some o=>aa o
     | none=>(List.range' 0 r.1.length).findSome? λ(k:Nat)=>(en r q k).bind λg=>pn r (fbF b) n g (p++[(k:Int)])).isSome,()):=by
    unfold qb;rw[Sk r j.us ah,ab];have a:en r q (-1)=if Fk r q.2.1 q.2.2=true then aa ((q.1.1,q.1.2.1,q.1.2.2.1,q.1.2.2.2.1,[],()),q.2.1,q.2.2+1) else none:=by
     unfold en;rw[aQ rfl]
    rcases Gm _ with f|f
    .rw[aQ f] at a;have x:=A _ _ a;have E:q.2.2<=1000:=by have:=j.pw;omega
     rw[f,aC ah,a,UK];generalize pn r _ n _ _=o at x⊢;cases o with
     | some o=>exact ob (ob x rfl) rfl
     | none=>exact ob (ob x rfl) i
    .rw[aK<|by rw[f];simp] at a;rw[f,a];exact i
   show mg _ _=_
   unfold mg pn;rw[XI r j.us ah,ab];cases Cl r q.2.1 q.2.2 with
   | true=>exact d
   | false =>
     cases b with
     | nil=>rfl
     | cons t l =>
       rw[ show idx _ 0=aa t from rfl,ab,Z7 (u.st.slf<|b0 _) t];unfold fbF;dsimp only;rcases Gm (yW q.1 t) with f|f
       .rw[aQ<|by rw[f];rfl,f];rfl
       .rw[aK<|by rw[f];simp,f];exact d
def ahb{s}{r:j6}(a:List aO)(d:r.1.length<=5)(b:r.2.1.length<=10)(m:∀e∈r.1,uu e.2.1)(n:∀e∈r.1,e.2.2.1<=9223372036854775807)(o:jP 40 s) :
  yy (s,r,a,())=aa ((pn r (fbF a) 40 (q0 s r) []).isSome,()):=by
 obtain⟨t,⟨_,v,j⟩,p,_⟩:=qe (f:=oy (s,r,_)) r.1 (λs i=>(((),s.1,i,()),s.2,())) (λs i x=>(if x.2.1.1=16 then s.1 else s.1+1,s.2++[x])) _ (λs i=>0<=s.1/\s.1<=i/\s.2=r.1.take i) ah (λz i x k q u g=>by
  have y:z.2.length<=5:=by rw[g.2.2];simp;omega
  unfold oy;dsimp only;rw[al q,ao k,ab,aJ cR,ab,u];have l:z.2++[x]=r.1.take (i+1):=by rw[g.2.2,xX,k];rfl
  by_cases h:x.2.1.1=16
  .rw[au h,aQ h];exact⟨rfl,ah,ah,l⟩
  .rw[ar h,aK h,eV ah ah];exact⟨rfl,ah,ah,l⟩) (λz g=>by unfold oy;rw[aq];rfl) (0,[]) ⟨ah,aT,aT⟩
 refine ob p ?_;dsimp only;rw[zJ] at j;rw[aB ah,j,show inside 0 _ _=true from aM ah dR ah,cK ah];have A:=abG (s:=s) d b;exact ob (KA a d b m n 40 (q0 s r) [] (ag9 d b o) ah ah) rfl
def Pk{s}{r:j6}{c}(a:List aO)(f:r.1.length<=5)(d:r.2.1.length<=10)(g:∀e∈r.1,uu e.2.1)(h:∀e∈r.1,e.2.2.1<=9223372036854775807)(i:jP 40 s)(k:ld (r,())=aa (c,())) :
  vH (s,r,a,())=aa (if c=0 then((pn r (fbF a) 40 (q0 s r) []).isSome,0,()) else(false,c,())):=by
 refine ob k ?_;by_cases b:c=0
 case neg=>rw[ar b,aK b];rfl
 rw[au b,aQ b];obtain⟨n,j,m,l⟩:=Ic f (λ_=>rfl);refine ob (x:=(false,())) (ob l<|by dsimp only;rw[aB ah]) ?_;exact ob (ob (ahb a f d g h i) rfl) rfl
def ajJ a b i j:ak (nt<|ak (nt<|ak (nt<|nt<|Yc a a) (nt<|aD i i) true) (nt<|Yc b b) true) (nt<|aD j j) true=false:=by
 rw[kv,kv];cases a<;>cases b<;>rfl
def Ux(s t:aO)(r:j6)(y:BkS s)(z:∀(i:Nat) e,r.1[i]?=aa e->e.2.2.1<=9223372036854775807):qc (s,t,r,())=aa (true,()):=by
 have d:∀e∈r.1,e.2.2.1<=9223372036854775807:=λe A=>by obtain⟨i,B⟩:=bc.1 A;exact z i e B
 obtain⟨b,C,D⟩:=adS s r;obtain⟨E,F,_⟩:=RD t;refine ob C ?_;cases b with
 | false=>rfl
 | true =>
 refine ob (ob F rfl) ?_;cases E with
 | false=>rfl
 | true =>
 obtain⟨hs,a⟩:=D rfl;have hn:=hs.n24 y;obtain⟨c,f,j⟩:=aab r (by have:=a.ev;omega) (by have:=a.pw;omega);have k:=adT a.ev a.pw a.calls hn f;have g:=Pk [] a.ev a.pw a.calls d hn j;have l:=aha a.ev a.pw a.calls hn t f;have h:=Pk [t] a.ev a.pw a.calls d hn j;have m:=adU a.ev a.pw a.calls hn f;rw[show fbF []=λ_=>true from rfl] at g;rw[show fbF [t]=λs=>yW s t from rfl] at h;by_cases n:c=0
 case neg =>
  rw[aK n] at k g l h m;refine(show ak false _ _=_ from ?_);rw[ag];refine ob k (ob g<|ob l<|ob h ?_);rw[ajJ];refine ob m ?_;rw[ar n,kv];rfl
 rw[aQ n] at k g l h m;refine ob k (ob g<|ob l<|ob h ?_);rw[ajJ];refine ob m ?_;cases G:pn r _ 40 _ [] with
 | none=>rfl
 | some o =>
   obtain⟨K,q,H,p,I,_⟩:=XL _ _ _ _ G;subst H;have u:=ag9 a.ev a.pw hn;have L:=abG (s:=s) a.ev a.pw;have M:=XM a.calls u p;have J:adL 0 s r o=(q.1,true,()):=by
    unfold adL;rw[aQ rfl,show Cr r (s,List.replicate r.1.length false,0) o=aa q from p];dsimp only;rw[aK<|by rw[I];simp]
   rw[n] at f j;have v:=Z5 (o:=o) j a.ev a.pw a.calls d ah hn;have x:=Z4 (o:=o) f a.ev a.pw a.calls ah hn;rw[J] at v x;refine ob v (ob x ?_);exact ob (ob (ZT<|(aiY a.calls u p).st.slf ah) rfl) rfl
end Go.Ge
namespace Go.Ge.W24
variable [Lp]
set_option maxRecDepth 100000
def cF:wy:=(14,3,[97],[],[],[],[],0,())
def cL:wy:=(1,0,[],[],[[97]],[],[],1,())
def evF(b n:Int):Ih:=(1,cF,b,n,1,okW w1,())
def evL(b n:Int):Ih:=(2,cL,b,n,1,okW w1,())
def r0:j6:=([evF 1 4,evL 2 3],[],())
def r1:j6:=([evF 1 5,evL 6 7],[],())
def tA(D N:Tx):aO:=([],[],[(w1,[],[[97]],D,1024,0,true,())],[N],[],())
def a0:A24 t0:=jP.a (by constructor<;>simp[t0])
def adu:uu cL:=⟨⟨aF,λx a=>by obtain rfl:=Ey.1 a;decide⟩,aF,aF⟩
def doL:yu (t0,cL,())=aa (tA (TX<|X8 1024)<|X8 1024,okW w1,()):=by
 rw[agS a0 adu];show aa (crS t0 [] [[97]] [] 1)=_
 rfl
def an8 D N:bV 39 ((r0,(tA D N,[false,true],0,[1],()),()),())=aa ((true,()),()):=by
 obtain rfl:‹Lp›=Lp.KL:=Lp.one _ _;kernel_rfl
def an9 D N:bU 39 ((r0,(tA D N,[false,true],0,[1],()),()),[],())=aa ((true,()),[1,0],()):=by
 obtain rfl:‹Lp›=Lp.KL:=Lp.one _ _;kernel_rfl
def amn:fO (t0,r1,())=aa (false,0,()):=by
 obtain rfl:‹Lp›=Lp.KL:=Lp.one _ _;kernel_rfl
def ajK:dE (r0,())=aa (0,()):=by
 obtain rfl:‹Lp›=Lp.KL:=Lp.one _ _;kernel_rfl
abbrev plT:aO×List Bool×Int×List Int×aj:=(tA (TX<|X8 1024)<|X8 1024,[false,true],0,[1],())
abbrev stA:j6×PlT×aj:=(r0,(t0,[false,false],0,[],()),())
section
variable {U:Type} (Sl:((j6×PlT×aj)×U)->Option ((Bool×aj)×U)) (w w':U)
def amo:Hw Sl (stA,w) ((false,0,()),w)=aa (.inl ((false,1,()),w)):=by
 obtain rfl:‹Lp›=Lp.KL:=Lp.one _ _;kernel_rfl
def step1(h:Sl ((r0,plT,()),w)=aa ((true,()),w')):Hw Sl (stA,w) ((false,1,()),w)=aa (.inr (1,(true,1,()),w')):=by
 show ak (aL 1<|len r0.1) (ae (I3 r0.1 r0.2.1 (t0,[false,false],0,[],()) 1 w) _) _=_
 rw[show aL 1 (len r0.1)=true from rfl,ai];refine ob (x:=((plT,true,()),w)) ?_ (ob h rfl);refine ob rfl (ob rfl (ob rfl (ob rfl ?_)));refine(show ak false _ (ak true (ak true (ak true (ak true _ _) _) _) _)=_ from ?_);rw[ag,ai,ai,ai,ai];refine ob rfl (ob rfl (ob rfl (ob (x:=((false,()),w)) ?_ ?_)))
 .obtain rfl:‹Lp›=Lp.KL:=Lp.one _ _;kernel_rfl
 refine ob doL ?_;obtain rfl:‹Lp›=Lp.KL:=Lp.one _ _;kernel_rfl
def root a b (h:Sl ((r0,plT,()),w)=aa ((true,()),w')):I4 a b Sl (stA,w)=aa ((true,()),w'):=by
 refine ob (x:=((true,()),w)) ?_ ?_
 .obtain rfl:‹Lp›=Lp.KL:=Lp.one _ _;kernel_rfl
 refine(show ak false _ (NO Sl (stA,w) w)=_ from ?_);rw[ag];refine ob (x:=_) rfl ?_;refine ob (x:=(1,(true,1,()),w')) ?_ rfl;rw[aN,amo];show Loop _ _=_
 rw[aN,step1 Sl w w' h];rfl
end
def amp:fO (t0,r0,())=aa (true,0,()):=by
 refine ob ajK ?_;refine ob (x:=((2,2,()),())) ?_ ?_
 .obtain rfl:‹Lp›=Lp.KL:=Lp.one _ _;kernel_rfl
 exact ob (show fN (stA,())=aa ((true,()),()) from root (bV 39) () () (λ_ _=>aa (true,())) (λ_ w=>w) (an8 _ _)) rfl
def amq:jz (t0,r0,())=aa ([1,0],0,()):=by
 refine ob ajK ?_;refine ob (x:=((2,2,()),())) ?_ ?_
 .obtain rfl:‹Lp›=Lp.KL:=Lp.one _ _;kernel_rfl
 exact ob (show fM (stA,[],())=aa ((true,()),[1,0],()) from root (bU 39) ([],()) ([1,0],()) (λ_ _=>aa (true,())) (λp _=>(p.2.2.2.1,())) (an9 _ _)) rfl
end Go.Ge.W24
