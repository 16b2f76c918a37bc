import Derived.Test.YtcebnmppipejfaaGreatDoorPlF
set_option linter.unusedSectionVars false
set_option linter.unusedVariables false
set_option linter.unusedSimpArgs false
set_option linter.defProp false
noncomputable section
open Option renaming some->ab,none->ah
open Go.IntKind (i64)
namespace Go.Ge
variable [Lp]
def AJ(q:aw)(f:Option Nd->Option Nd):Prop:=(∃c,∀s,f s=c)\/(∀s,f s=PG q s)\/(∀s,f s=s)
def Re(q:aw)(s:Option Nd):PG q (PG q s)=PG q s:=by
 cases s with
 | none=>rfl
 | some x =>
   show PG q (if x.2.1=2 then ab x else ab (gl 493 q))=if x.2.1=2 then ab x else ab (gl 493 q)
   by_cases h:x.2.1=2
   .rw[aW h];show(if x.2.1=2 then ab x else ab (gl 493 q))=_
    rw[aW h]
   .rw[aQ h];rfl
def AJ.comp{q:aw}{f g:Option Nd->Option Nd}(b:AJ q f)(a:AJ q g):AJ q (λs=>f (g s)):=by
 rcases b with ⟨c,d⟩|b|b
 .exact .inl ⟨c,λs=>d _⟩
 .rcases a with ⟨c,d⟩|a|a
  .exact .inl ⟨PG q c,λs=>by show f (g s)=_;rw[b,d]⟩
  .exact .inr (.inl λs=>by show f (g s)=_;rw[b,a,Re])
  .exact .inr (.inl λs=>by show f (g s)=_;rw[b,a])
 .rcases a with ⟨c,d⟩|a|a
  .exact .inl ⟨c,λs=>by show f (g s)=_;rw[b,d]⟩
  .exact .inr (.inl λs=>by show f (g s)=_;rw[b,a])
  .exact .inr (.inr λs=>by show f (g s)=_;rw[b,a])
def AJ.alc{q:aw}{f:Option Nd->Option Nd}(a:AJ q f)(s:Option Nd):f (f s)=f s:=by
 rcases a with ⟨c,b⟩|a|a
 .rw[b,b]
 .rw[a,a,Re]
 .rw[a,a]
def Y3(q:aw)(p:Pt):AJ q (λs=>acL q s p):=by
 unfold acL;by_cases a:(bR p).1=0/\(bR p).2.1≠[]
 .simp only[aW a];unfold ahU;by_cases b:q=(jt p<|aN (bR p).2.1).1
  .simp only[aW b];exact .inl ⟨_,λ_=>rfl⟩
  .simp only[aQ b];by_cases c:dt (parts q) (bR p).2.1=true/\(jt p<|aN (bR p).2.1).2.1≠2
   .simp only[aW c];exact .inl ⟨_,λ_=>rfl⟩
   .simp only[aQ c];by_cases d:dt (bR p).2.1 (parts q)=true/\q≠[]
    .simp only[aW d];exact .inr (.inl λ_=>rfl)
    .simp only[aQ d];exact .inr (.inr λ_=>rfl)
 .simp only[aQ a];exact .inr (.inr λ_=>rfl)
def Wm(q:aw):∀(ps:List Pt),AJ q (λs=>ps.foldl (acL q) s):=by
 intro ps;induction ps with
 | nil=>exact .inr (.inr λ_=>rfl)
 | cons p r a=>exact a.comp (Y3 q p)
def Wn(q:aw)(a:List Pt):AJ q (afM q a):=by
 unfold afM;by_cases h:a.any (PH q)=true
 .simp only[aW h];exact .inl ⟨_,λ_=>rfl⟩
 .simp only[aQ h];exact .inr (.inr λ_=>rfl)
def afO{l:List Nd}(b:Valid l){a:List Pt}(c:iw a=true):(my l a).2=0\/(my l a).2=5:=by
 have d:my l a=yY a (a.foldl va l):=by unfold my;rw[aW b,aW c]
 rw[d];exact Wk a _ c (yu a l b)
def acN{l:List Nd}(d:Valid l){a:List Pt}(b:iw a=true)(e:(my l a).2=0):my (my l a).1 a=((my l a).1,0)\/(my (my l a).1 a).2=5:=by
 obtain⟨c,f⟩:=Y2 d b e;rcases afO c b with h|h
 .left;obtain⟨g,i⟩:=Y2 c b h;have:(my (my l a).1 a).1=(my l a).1:=ajD g.ord c.ord λq=>by
   rw[i,f];exact((Wm q a).comp<|Wn q a).alc (Kx l q)
  exact Prod.ext this h
 .exact .inr h
def DM(s:aw):List Pt×Int:=match fo (s,()) with
 | some (l,e,_)=>(l,e)
 | none=>([],10)
def Ld(s:aw):fo (s,())=ab ((DM s).1,(DM s).2,())/\Tl (DM s).1:=by
 obtain⟨d,e,a,b,c,_⟩:=afy s;unfold DM;rw[a];exact⟨rfl,ahS b c⟩
def jI(l:List Nd)(s:aw):List Nd×Int:=if(DM s).2=0 then my l (DM s).1 else([],10)
def Rf{l:List Nd}(a:Valid l)(s:aw):jS (l,s,())=ab ((jI l s).1,(jI l s).2,()):=by
 obtain⟨b,c⟩:=Ld s;rw[acH b c a];unfold jI;by_cases h:(DM s).2=0
 .rw[aW h,aW h]
 .rw[aQ h,aQ h]
def Ix{l:List Nd}(c:Valid l)(s:aw):((jI l s).2=0/\Valid (jI l s).1/\(jI (jI l s).1 s=((jI l s).1,0)\/(jI (jI l s).1 s).2=5))\/((jI l s).2≠0/\(jI l s).1=[]):=by
 unfold jI;by_cases h:(DM s).2=0
 .rw[aW h];simp only[aW h];rcases afN c (DM s).1 with ⟨a,b⟩|⟨a,b,_⟩
  .exact .inl ⟨a,(Y2 c b a).1,acN c b a⟩
  .exact .inr ⟨a,b⟩
 .rw[aQ h];exact .inr ⟨aK,rfl⟩
def sR:List aw->List Nd->List Nd×Int
 | [],t=>(t,0)
 | s::r,t=>if(jI t s).2=0 then sR r (jI t s).1 else([],(jI t s).2)
def acO:∀(r:List aw) (s:aw) (t u:List Nd),sR r t=(u,0)->sR (r++[s]) t=if(jI u s).2=0 then((jI u s).1,0) else([],(jI u s).2):=by
 intro r;induction r with
 | nil =>
   intro s t u h;have:t=u:=congrArg Prod.fst h;subst this;rfl
 | cons a r c =>
   intro s t u h;rw[JW];unfold sR at h⊢;by_cases b:(jI t a).2=0
   .rw[aW b] at h⊢;exact c s _ u h
   .rw[aQ b] at h;exact absurd (congrArg Prod.snd h) b
def ahW(r:List aw)(s:r.length<=1000):qa (r,())=ab ((sR r []).1,(sR r []).2,()):=by
 have key:∀(d i:Nat) (t:List Nd),i+d=r.length->Valid t->∃z,Loop (gu (r,())) ((([]:List Nd),(0:Int),t,(i:Int),()),())=ab z /\
   (((sR (r.drop i) t).2=0/\z.1=0/\z.2.1.2.2.1=(sR (r.drop i) t).1)\/((sR (r.drop i) t).2≠0/\z.1=1/\z.2.1.1=(sR (r.drop i) t).1/\z.2.1.2.1=(sR (r.drop i) t).2)):=by
  intro d;induction d with
  | zero =>
    intro i t o l;obtain rfl:i=r.length:=ai;rw[LB];have p:gu (r,()) ((([]:List Nd),(0:Int),t,(r.length:Int),()),())=ab (.inr (0,(([]:List Nd),(0:Int),t,(r.length:Int),()),())):=by
     unfold gu;dsimp only;rw[ay,af]
    exact⟨(0,(([]:List Nd),(0:Int),t,(r.length:Int),()),()),by rw[aT,p];rfl,.inl ⟨rfl,rfl,rfl⟩⟩
  | succ d q =>
    intro i t o l;have hx:r[i]?=ab r[i]:=ia ai;rw[zg ai];unfold sR;have j:gu (r,()) ((([]:List Nd),(0:Int),t,(i:Int),()),())=ab (if(jI t r[i]).2=0 then .inl ((([]:List Nd),(0:Int),(jI t r[i]).1,((i+1:Nat):Int),()),()) else .inr (1,(([]:List Nd),(jI t r[i]).2,t,(i:Int),()),())):=by
     unfold gu;dsimp only;rw[aq<|show i<r.length by omega,ae,au hx,aa,Rf l,aa,aL ai];dsimp only;by_cases f:(jI t r[i]).2=0
     .rw[aE f,aW f];rfl
     .rw[ax f,aQ f];rfl
    by_cases f:(jI t r[i]).2=0
    .rw[aW f] at j⊢;have m:Valid (jI t r[i]).1:=by
      rcases Ix l r[i] with ⟨_,h,_⟩|⟨h,_⟩
      .exact h
      .exact absurd f h
     obtain⟨z,n,k⟩:=q (i+1) _ ai m;exact⟨z,by rw[aT,j];exact n,k⟩
    .rw[aQ f] at j⊢;exact⟨(1,(([]:List Nd),(jI t r[i]).2,t,(i:Int),()),()),by rw[aT,j];rfl,.inr ⟨f,rfl,rfl,rfl⟩⟩
 have g:Valid []:=AE YS.1;obtain⟨z,n,k⟩:=key r.length 0 [] ai g;rw[zZ] at k;unfold qa;rw[show Loop (gu (r,())) ((([]:List Nd),(0:Int),([]:List Nd),(0:Int),()),())=_ from n,aa];rcases k with ⟨a,b,c⟩|⟨a,b,c,e⟩
 .rw[b,c,a];rfl
 .rw[b,c,e];rfl
def Rg(b:aw)(k:b.length<=100000):wi (b,())=ab (decide (b.length=512/\∀x∈b,x=0),()):=by
 have e0:∀y:UInt8,aS (u8 y) 0=decide (y=0):=λy=>D6 (n:=0);have h:=afE (f:=qG (b,())) b (λi=>((false,(i:Int),()),())) (λx=>!decide _) _ _ (λi x a=>by
  have hi:=aG a;unfold qG;rw[aq hi,ae,au a,aa,e0,aL ai];cases decide (x=0)<;>rfl) (by
  unfold qG;rw[ay,af]) b.length 0 ai
 unfold wi;rcases h with ⟨j,x,_,a,g,_,c⟩|⟨l,c⟩
 .rw[show Loop _ ((false,(0:Int),()),())=_ from c,aa,eZ,af];have d:x≠0:=by simpa using g
  rw[cL λq:b.length=512/\∀x∈b,x=0=>d (q.2 x<|eT a)]
 .rw[show Loop _ ((false,(0:Int),()),())=_ from c,aa,bW,ae];have e:∀x∈b,x=0:=λx a=>by
   obtain⟨i,hi⟩:=bz.1 a
   grind
  have:aS (len b) 512=decide (b.length=512/\∀x∈b,x=0):=by
   unfold aS len
   grind
  grind
def acP(b:aw)(m:b.length<=100000):wj (b,())=ab (decide (1024<=b.length/\b.length % 512=0/\∀x∈b,x=0),()):=by
 have e0:∀y:UInt8,aS (u8 y) 0=decide (y=0):=λy=>D6 (n:=0);have h:=afE (f:=qH (b,())) b (λi=>((false,(i:Int),()),())) (λx=>!decide _) _ _ (λi x a=>by
  have hi:=aG a;unfold qH;rw[aq hi,ae,au a,aa,e0,aL ai];cases decide (x=0)<;>rfl) (by
  unfold qH;rw[ay,af]) b.length 0 ai
 unfold wj;dsimp only;by_cases g:1024<=b.length
 case neg =>
  rw[aP<|by rw[bE];omega,aF,af,aa,ae,cL λq:1024<=b.length/\b.length % 512=0/\∀x∈b,x=0=>g q.1]
 rw[aI<|by rw[bE];omega,az,ae,show aS 512 0=false from rfl,af,show jK _ 512=((b.length % 512:Nat):Int) from rfl];by_cases k:b.length % 512=0
 case neg =>
  rw[ax ai,az,aa,ae,cL λq:1024<=b.length/\b.length % 512=0/\∀x∈b,x=0=>k q.2.1]
 rw[aE ai,aF,aa,af];rcases h with ⟨j,x,_,a,l,_,c⟩|⟨o,c⟩
 .rw[show Loop _ ((false,(0:Int),()),())=_ from c,aa,eZ,af];have d:x≠0:=by simpa using l
  rw[cL λq:1024<=b.length/\b.length % 512=0/\∀x∈b,x=0=>d (q.2.2 x<|eT a)]
 .rw[show Loop _ ((false,(0:Int),()),())=_ from c,aa,bW,ae];have e:∀x∈b,x=0:=λx a=>by
   obtain⟨i,hi⟩:=bz.1 a
   grind
  grind
abbrev PS:=(aw×(List Pt×(Bool×(al×al))))×(List Pt×al)
def ps0(r:aw)(a:List Pt):PS:=((r,([]:List Pt),false,(),()),a,())
def Rh(r:aw)(out:List Pt)(w:r.length<=8192):∃p f g,bP ((),rd r (out.length:Int),())=ab ((p,f,()),g,()) /\
  ((f=false/\∃b z,g=Eb (out.length:Int) b/\eP (ps0 r out)=ab (.inr z)/\((z.1=0/\b=true)\/(z.1=1/\z.2.1.2.1=out/\z.2.1.2.2.1=!b))) \/
   (f=true/\∃h,g=rd h ((out.length+1:Nat):Int)/\h.length+512<=r.length/\out.length<64/\eP (ps0 r out)=ab (.inl<|ps0 h<|out++[p]))):=by
 by_cases c:r.length<512
 .refine⟨_,_,_,Nt r out.length c,.inl ⟨rfl,true,(0,ps0 r out),rfl,?_,.inl ⟨rfl,rfl⟩⟩⟩;unfold eP ps0;dsimp only;rw[ea<|by rw[bE];omega,af]
 have i:(r.take 512).length=512:=by rw[km];omega
 have d:inside (0:Int) (512:Int) (len r)=true:=aU aK aK (by rw[bE];omega);by_cases j:∀x∈r.take 512,x=0
 .refine⟨_,_,_,Io r out.length ai ai j,.inl ⟨rfl,_,(1,(r,out,decide (1024<=r.length/\r.length % 512=0/\∀x∈r,x=0),(),()),out,()),rfl,?_,.inr ⟨rfl,rfl,aY⟩⟩⟩;unfold eP ps0;dsimp only;rw[bO<|by rw[bE];omega,ae,d,ae,show sub r 0 (minus 512 0)=r.take 512 from ij r 512,Rg _ ai,aa,dE (⟨i,j⟩:(r.take 512).length=512/\∀x∈r.take 512,x=0),ae,acP r ai,aa]
 have e:=λb=>GR r (out.length:Int) b;obtain⟨x,o,n,s⟩:=aaw _ i;have t3:=(take_same _ i).trans n;have t:(r.drop 512).length=r.length-512:=nV;unfold bP eP ps0;dsimp only[rd] at e⊢;rw[aF,az,ae,af,aI (by rw[bE];omega),af,d,ae,show sub r 0 (minus 512 0)=r.take 512 from ij r 512];rw[M7 _ ai,aa,bO (a:=512) (by rw[bE];omega),ae,ae,Rg _ ai,aa];rw[cL (λq:(r.take 512).length=512/\∀x∈r.take 512,x=0=>j q.2),af,af,ae,ae,n,t3,aa,aa,aU aK (by rw[bE];omega) (sN _),ae,show sub r 512 (minus _ 512)=r.drop 512 from mG r 512 ai];by_cases l:o=0
 case neg =>
  rw[ax l,az,ae,e,aa];exact⟨_,_,_,rfl,.inl ⟨rfl,_,_,rfl,rfl,.inr ⟨rfl,rfl,rfl⟩⟩⟩
 rw[aE l,aF,af];have m:=s l;obtain⟨u,y⟩:=m.2.2.2.1;obtain⟨k,v⟩:=adx u;rw[v];by_cases A:8192<k
 .rw[aP<|by rw[bE];omega,ae,e,aa,aP ai];exact⟨_,_,_,rfl,.inl ⟨rfl,_,_,rfl,rfl,.inr ⟨rfl,rfl,rfl⟩⟩⟩
 have B:=VX k;rw[aI (a:=8192) ai,show nj _=_ from V1 k ai,aa];rw[show aH .i64 512 _=_ from xh (a:=512) ai];by_cases C:(r.drop 512).length<k
 .rw[aP<|by rw[bE];omega,ae,e,aa,aP (by rw[bE];omega)];exact⟨_,_,_,rfl,.inl ⟨rfl,_,_,rfl,rfl,.inr ⟨rfl,rfl,rfl⟩⟩⟩
 .rw[aI<|by rw[bE];omega,af,VY k ai,aa,ff ai ai];by_cases D:(r.drop 512).length<k+vL k
  .rw[aP<|by rw[bE];omega,ae,e,aa,aP (a:=len r) (by rw[bE];omega)];exact⟨_,_,_,rfl,.inl ⟨rfl,_,_,rfl,rfl,.inr ⟨rfl,rfl,rfl⟩⟩⟩
  .rw[aI<|by rw[bE];omega,af,aI (by rw[bE];omega)];by_cases E:64<=out.length
   .rw[bO ai,ae,e,aa,bO (by rw[bE];omega)];exact⟨_,_,_,rfl,.inl ⟨rfl,_,_,rfl,rfl,.inr ⟨rfl,rfl,rfl⟩⟩⟩
   .rw[ea ai,af,aa,ff ai ai,aU ai (by rw[bE];omega) (sN _),ae,aU ai ai (by rw[bE];omega),ae];rw[show sub _ 0 _=(r.drop 512).take k from ij _ k,show _+_=((k+vL k:Nat):Int) by omega,mG _ _ ai,aL ai];rw[ea<|by rw[bE];omega];have es:sub r 512 (minus ((512+k:Nat):Int) 512)=(r.drop 512).take k:=by
     unfold sub minus
     grind
    refine⟨_,_,_,rfl,.inr ⟨rfl,_,rfl,?_,ai,?_⟩⟩
    .grind
    .rw[show aH .i64 512 _=_ from xh (a:=512) ai,es];rw[show ao _ _ _=ab false from rfl];rw[aa,az,ae,af,aU aK ai (by rw[bE];omega),ae,bo (by simp only[eU,gj];omega),ae,aa];rw[show aH .i64 512 _=_ from xh (a:=512) ai,aU ai (by rw[bE];omega) (sN _),ae,mG r _ ai,yG];rfl
def acQ:∀(m:Nat) (r:aw) (out:List Pt) (p:Pt),r.length<=m->r.length<=8192->out.length<=63 ->
  ∃(c:List Pt) (d:Pt) (b:Int×Bool) (z:Nat×PS),Loop iL (((),(),true,()),p,out,rd r ((out.length+1:Nat):Int),())=ab (((),(),false,()),d,c,Eb b.1 b.2,()) /\
   Loop eP (ps0 r<|out++[p])=ab z/\((z.1=0/\b.2=true)\/(z.1=1/\z.2.1.2.1=c/\z.2.1.2.2.1=!b.2)):=by
 intro m;induction m using Nat.strongRecOn with
 | _ m h =>
   intro r out p x i j;obtain⟨e,k,l,f,n⟩:=Rh r _ i;have hlen:((out++[p]).length:Int)=((out.length+1:Nat):Int):=aY;rw[hlen] at f;have a:=Q2 p out _ ai f;rcases n with ⟨rfl,b,z,rfl,q,s⟩|⟨rfl,g,rfl,y,A,t⟩
   .refine⟨out++[p],e,(((out++[p]).length:Int),b),z,?_,by rw[aT,q];rfl,s⟩;rw[aT,a];show Loop _ _=_
    rw[aT,wP];rfl
   .obtain⟨o,d,b,z,u,v,w⟩:=h g.length ai g (out++[p]) e (cq _) ai ai;exact⟨o,d,b,z,by rw[aT,a];exact u,by rw[aT,t];exact v,w⟩
def Ri(s:aw):mn (s,())=fo (s,()):=by
 by_cases f:8192<s.length
 .rw[Q3 s f];unfold mn uu;dsimp only;rw[aP<|by rw[bE];omega,ae,aa];rfl
 obtain⟨p,v,w,g,h⟩:=Rh s [] ai;have fin:∀(b:Int×Bool) (o:List Pt),(ag (iS ((),Eb b.1 b.2,())) λa=>ao a.1.1 (ab _) (ab (o,_)))=ab (if b.2=true then(([]:List Pt),(10:Int),()) else(o,(0:Int),())):=λb o=>by
  obtain⟨x,i⟩:=b;cases i<;>rfl
 have parts:∀(o:List Pt) (b:Bool) (z:Nat×PS),Loop eP (ps0 s [])=ab z->((z.1=0/\b=true)\/(z.1=1/\z.2.1.2.1=o/\z.2.1.2.2.1=!b))->mn (s,())=ab (if b=true then _ else _):=λo b z j k=>by
  unfold mn uu;dsimp only;rw[aI<|by rw[bE];omega,af,show Loop eP ((s,_),_)=_ from j,aa];rcases k with ⟨c,d⟩|⟨c,d,l⟩
  .rw[c,bW,ae,aa,d];rfl
  .rw[c,eZ,af,aa,d,l];cases b<;>rfl
 unfold fo;dsimp only;rw[aI<|by rw[bE];omega,show bP ((),(true,s,(0:Int),_),())=_ from g,aa];rcases h with ⟨rfl,b,z,rfl,m,n⟩|⟨rfl,e,rfl,y,A,q⟩
 .rw[aT,wP];show _=(ag (iS _) λa=>ao a.1.1 _ _)
  rw[fin (_,b),parts [] b z (by rw[aT,m];rfl) n]
 .obtain⟨o,B,b,z,r,t,u⟩:=acQ e.length e [] p (cq _) ai aY;rw[show Loop iL _=_ from r,aa];rw[fin b o];exact parts o b.2 z (by rw[aT,q];exact t) u
def xE(s:aw):nr (s,())=ab (if(DM s).2=0/\iw (DM s).1=true then 0 else 10,()):=by
 obtain⟨d,e⟩:=Ld s;unfold nr;rw[Ri s,d,aa];rw[CG _ e,aa];by_cases a:(DM s).2=0
 .rw[aE a];by_cases c:iw (DM s).1=true
  .rw[c,aW ⟨a,rfl⟩];rfl
  .have b:iw (DM s).1=false:=by simpa using c
   rw[b,aQ λq:(DM s).2=0/\false=true=>Bool.noConfusion q.2];rfl
 .rw[ax a,aQ λq:(DM s).2=0/\iw (DM s).1=true=>a q.1];rfl
def Wo{l:List Nd}(b:Valid l){a:List Pt}(c:¬iw a=true):my l a=([],10):=by unfold my;rw[aW b,aQ c]
def Ef(a:List aD)(id:Tx):Option Nat:=a.findIdx? λx=>decide (x.1=id)
def BJ(a:List aD)(id:Tx):Int:=match Ef a id with|some i=>(i:Int)|none=>-1
def NR{a:List aD}{id:Tx}{i:Nat}{x:aD}(b:a[i]?=ab x)(c:x.1=id)(d:∀(j:Nat) (y:aD),j<i->a[j]?=ab y->decide (y.1=id)=false):Ef a id=ab i:=by
 unfold Ef;rw[aa3]
 grind
def GV{a:List aD}{id:Tx}(c:∀(i:Nat) (x:aD),a[i]?=ab x->decide (x.1=id)=false):Ef a id=none:=by
 unfold Ef;rw[adv];intro x b;obtain⟨i,d⟩:=bz.1 b
 grind
def yZ{a:List aD}{id:Tx}{i:Nat}(h:Ef a id=ab i):∃x,a[i]?=ab x/\x.1=id:=by
 unfold Ef at h;rw[aa3] at h
 grind
def Lf{a:List aD}{id:Tx}:(∃i,Ef a id=ab i)↔∃x∈a,x.1=id:=by
 constructor
 .rintro⟨i,h⟩;obtain⟨x,b,c⟩:=yZ h
  grind
 .rintro⟨x,b,c⟩;cases h:Ef a id with
  | some i=>exact⟨i,rfl⟩
  | none =>
    unfold Ef at h
    grind
def afP{a:List aD}{id:Tx}:BJ a id<0↔¬∃x∈a,x.1=id:=by
 rw[<-Lf];unfold BJ
 grind
def Rj{f:(Int×Int×al)×al->Option (((Int×Int×al)×al)⊕(Nat×(Int×Int×al)×al))}(a:List aD)(id:Tx)(n:a.length<=1000000)
  (d:∀c i:Int,f ((c,i,()),())=ao (aZ i<|len a) (ag (idx a i) λy=>ao (bG y.1 id) (ab<|.inr (1,(i,i,()),())) (ab<|.inl ((c,aH .i64 i 1,()),()))) (ab<|.inr (0,(c,i,()),()))) :
  ag (Loop f (((0:Int),(0:Int),()),())) (λe=>ao (da e.1 0) (ab ((-1:Int),())) (ab (e.2.1.1,())))=ab (BJ a id,()):=by
 rcases iQ (f:=f) a (λi=>(((0:Int),i,()),())) (λ_ x=>decide (x.1=id)) (λi x=>(1,((i:Int),(i:Int),()),())) (0,((0:Int),len a,()),()) ai (λi x b g j=>by
  rw[d,aq g,ae,au b,aa,eA,j];by_cases h:x.1=id<;>simp[bG,h]) (by rw[d,ay,af];rfl) with ⟨i,x,b,k,l,h⟩|⟨m,h⟩
 .rw[h,aa];unfold BJ;rw[NR b (iy k) l];rfl
 .rw[h,aa];unfold BJ;rw[GV m];rfl
def NS(a:List aD)(id:Tx)(b:a.length<=1000000):Az (a,id,())=ab (BJ a id,()):=Rj a id b λc i=>rfl
def NT(s:aA)(id:Tx)(a:s.2.2.1.length<=1000000):mo (s,id,())=ab (BJ s.2.2.1 id,()):=Rj s.2.2.1 id a λc i=>rfl
def BK(ls:List aD):Nat->Tx->List aD->List aD×Int
 | n,id,acc=>match Ef ls id with
   | none=>([],3)
   | some i=>match n,ls[i]? with
     | 0,_=>([],5)
     | n+1,ab x=>if x.2.1=[] then(acc++[x],0) else BK ls n x.2.1 (acc++[x])
     | _,ah=>([],3)
def bj(ls:List aD)(id:Tx):List aD×Int:=BK ls 16 id []
def Y4(a:List aD)(c:Tx)(d:a.length<=1000000):∀(n:Nat) (id:Tx) (acc:List aD) (k:Nat),n+k=16->acc.length<=k ->
  ∃f g j,Loop (lK (a,c,())) ((id,([]:List aD),(0:Int),(),(k:Int),()),acc,())=ab (1,(f,(BK a n id acc).1,(BK a n id acc).2,g),j):=by
 intro n;induction n with
 | zero =>
   intro id acc k l m;rw[aT];unfold lK;dsimp only;rw[bO ai,ae,NS a id d,aa];unfold BK BJ;cases h:Ef a id with
   | none=>exact⟨_,_,_,rfl⟩
   | some i =>
     dsimp only;rw[aI ai,af,aE ai,ae];simp_all
 | succ n o =>
   intro id acc k l m;rw[aT];unfold lK;dsimp only;rw[bO ai,ae,NS a id d,aa];unfold BK BJ;cases h:Ef a id with
   | none=>exact⟨_,_,_,rfl⟩
   | some i =>
     obtain⟨x,e,p⟩:=yZ h;dsimp only;rw[aI ai,af,ax ai,af,au e,aa,show fits (plus (@len aD acc)<|@len aD ([x]:List aD))=true from bo (by show _+1<=_;omega),ae,aa,e];dsimp only;rw[cZ];by_cases b:x.2.1=[]
     .rw[dE b,ae,aW b];exact⟨_,_,_,rfl⟩
     .rw[cL b,af,aQ b,aa,aL ai];have:=o x.2.1 (acc++[x]) (k+1) ai (by rw[hY];show _+1<=_;omega);exact this
def Rk(a:List aD)(id:Tx)(b:a.length<=1000000):qc (a,id,())=ab ((bj a id).1,(bj a id).2,()):=by
 unfold qc;obtain⟨d,e,f,h⟩:=Y4 a id b 16 id [] 0 rfl (cq _);have c:Loop (lK (a,id,())) ((id,([]:List aD),(0:Int),(),(0:Int),()),([]:List aD),())=_:=h;rw[c,aa];rfl
def ahY{ls:List aD}:∀{n:Nat} {id:Tx} {acc:List aD},(∀x∈acc,x∈ls)->(∀x∈(BK ls n id acc).1,x∈ls)/\(BK ls n id acc).1.length<=n+acc.length:=by
 intro n;induction n with
 | zero =>
   intro id acc h;unfold BK
   grind
 | succ n a =>
   intro id acc h;unfold BK;cases b:Ef ls id with
   | none=>simp
   | some i =>
     grind
def pF{ls:List aD}{id:Tx}:(∀x∈(bj ls id).1,x∈ls)/\(bj ls id).1.length<=16:=by
 obtain⟨a,b⟩:=ahY (ls:=ls) (n:=16) (id:=id) (acc:=[]) Fx;exact⟨a,by unfold bj;simpa using b⟩
def Y5{l:List Nd}(a:Valid l)(s:aw):uv (l,s,())=ab ((jI l s).1,(jI l s).2,()):=by
 obtain⟨d,e⟩:=Ld s;obtain⟨v,f,g⟩:=tB l (gN a);unfold uv;rw[f,aa,g.2 a];rw[aF,af,xE s,aa,Ri s,d];unfold jI;by_cases b:(DM s).2=0
 .rw[aW b];by_cases c:iw (DM s).1=true
  .rw[aW (⟨b,c⟩:(DM s).2=0/\iw (DM s).1=true),show nt (aS 0 0)=false from rfl,af,aa,YZ l _ (gN a) e,aa]
  .rw[aQ (λq:(DM s).2=0/\iw (DM s).1=true=>c q.2),Wo a c];rfl
 .rw[aQ b,aQ λq:(DM s).2=0/\iw (DM s).1=true=>b q.1];rfl
def acR(a:List Tx)(s:a.length<=1000000):yn (a,())=ab ((sR a []).1,(sR a []).2,()):=by
 unfold yn;have key:∀(r:List Tx) (t:List Nd) (k:Nat),a=a.take k++r->k+r.length=a.length->Valid t->∃q,(Loop (gM (a,())) ((([]:List Nd),(0:Int),t,(k:Int),()),())=ab (1,(([]:List Nd),(sR r t).2,q),())/\(sR r t).1=[]) \/
   ∃l m n,Loop (gM (a,())) ((([]:List Nd),(0:Int),t,(k:Int),()),())=ab (0,(l,m,(sR r t).1,n),())/\(sR r t).2=0:=by
  intro r;induction r with
  | nil =>
    intro t k o b e;rw[gj,FB] at b;refine⟨((t,(k:Int),()):List Nd×Int×al),.inr ⟨[],0,((k:Int),()),?_,rfl⟩⟩;rw[aT];unfold gM;rw[b,ay,af];rfl
  | cons d r p =>
    intro t k o b e;rw[eU] at b;have hx:a[k]?=ab d:=by
     grind
    have step:gM (a,()) ((([]:List Nd),(0:Int),t,(k:Int),()),())=ab (if(jI t d).2=0 then .inl ((([]:List Nd),(0:Int),(jI t d).1,((k+1:Nat):Int),()),()) else .inr (1,(([]:List Nd),(jI t d).2,t,(k:Int),()),())):=by
     unfold gM;dsimp only;rw[aq ai,ae,au hx,aa,Y5 e d,aa,aL ai];by_cases c:(jI t d).2=0
     .rw[aE c,aF,af,aW c]
     .rw[ax c,az,ae,aQ c]
    rw[aT,step];unfold sR;by_cases c:(jI t d).2=0
    .rw[aW c,aW c];have f:Valid (jI t d).1:=by
      rcases Ix e d with ⟨_,h,_⟩|⟨h,_⟩
      .exact h
      .grind
     exact p (jI t d).1 (k+1) (by rw[ED,hx];simpa using o) ai f
    .grind
 have g:Valid []:=AE YS.1;obtain⟨q,⟨h,i⟩|⟨l,m,n,h,i⟩⟩:=key a [] 0 aY aY g
 .have j:Loop (gM (a,())) ((([]:List Nd),(0:Int),([]:List Nd),(0:Int),()),())=_:=h;rw[j,aa,i];rfl
 .have j:Loop (gM (a,())) ((([]:List Nd),(0:Int),([]:List Nd),(0:Int),()),())=_:=h;rw[j,aa,i];rfl
def sS(ls:List aD)(a:List Tx)(id:Tx):Tx:=match Ef ls id with|some i=>(a[i]?).getD []|none=>[]
def eg(ls:List aD)(a:List Tx)(id:Tx):List Nd×Int :=
 if(bj ls id).2=0 then sR ((bj ls id).1.reverse.map λx=>sS ls a x.1) [] else([],(bj ls id).2)
def Y6(s:aA)(i:Nat):wq (s,(i:Int),())=ab ((s.2.2.2.1[i]?).getD [],()):=by
 unfold wq;dsimp only;by_cases h:i<s.2.2.2.1.length
 .have hx:s.2.2.2.1[i]?=ab s.2.2.2.1[i]:=ia h;rw[aq h,ae,au hx,aa,hx];rfl
 .have hx:s.2.2.2.1[i]?=none:=Lr ai;rw[aI ft,af,hx];rfl
def Fg(s:aA)(id:Tx)(g:s.2.2.1.length<=1000000):mq (s,id,())=ab ((eg s.2.2.1 s.2.2.2.1 id).1,(eg s.2.2.1 s.2.2.2.1 id).2,()):=by
 obtain⟨h,b⟩:=pF (ls:=s.2.2.1) (id:=id);unfold mq eg;rw[Rk _ id g,aa];by_cases a:(bj s.2.2.1 id).2=0
 .rw[aE a,aF,af,aW a];generalize (bj s.2.2.1 id).1=c at h b;generalize k:(c,(bj s.2.2.1 id).2,())=q;have d:q.1=c:=by rw[<-k]
  have key:∀(n:Nat) (acc:List Tx),n<=c.length->acc.length+n<=1000->∃z,Loop (mV (s,id,()) q) (((),(n:Int)-1,()),acc,())=ab (z,(acc++(c.take n).reverse.map λx=>sS s.2.2.1 s.2.2.2.1 x.1,())):=by
   intro n;induction n with
   | zero =>
     intro acc _ _;refine⟨((),((0:Nat):Int)-1,()),?_⟩;rw[aT];unfold mV;dsimp only;rw[ea ai,af];simp[dn]
   | succ n l =>
     intro acc m o;obtain⟨x,e⟩:∃x,c[n]?=ab x:=⟨_,ia (show n<c.length by omega)⟩;obtain⟨i,j⟩:=Lf.2 ⟨x,h x (eT e),rfl⟩;have hd:sS s.2.2.1 s.2.2.2.1 x.1=(s.2.2.2.1[i]?).getD []:=by unfold sS;rw[j]
     obtain⟨z,f⟩:=l (acc++[sS s.2.2.1 s.2.2.2.1 x.1]) ai (by rw[hY];show _+1+n<=_;omega);refine⟨z,?_⟩;have step:mV (s,id,()) q (((),(n:Int),()),acc,())=ab (.inl (((),(n:Int)-1,()),acc++[sS s.2.2.1 s.2.2.2.1 x.1],())):=by
      unfold mV;dsimp only;rw[bO ai,ae,d,au e,aa,NT s x.1 g,aa];rw[show BJ s.2.2.1 x.1=(i:Int) by unfold BJ;rw[j],Y6 s i,aa,<-hd];rw[show fits (plus (@len Tx acc)<|@len Tx ([sS s.2.2.1 s.2.2.2.1 x.1]:List Tx))=true from bo (by show _+1<=_;omega),ae,dL ai ai];rfl
     rw[show((n+1:Nat):Int)-1=(n:Int) by omega,aT,step];refine zk f ?_;rw[ED,e];simp
  obtain⟨z,f⟩:=key c.length [] (cq _) nU;have hlen:db .i64 (len c) 1=(c.length:Int)-1:=dL ft ft;rw[hlen,f,aa];rw[DG,BG,acR _ (by rw[uI,Ql];omega),aa]
 .rw[ax a,az,ae,aQ a]
def sx(s:Tx):Prop:=(DM s).2=0/\iw (DM s).1=true
structure Fh (ls:List aD) (ds:List Tx):Prop where
 same:ds.length=ls.length
 chain:∀x∈ls,(bj ls x.1).2=0
 each:∀(i:Nat) (x:aD) (d:Tx),ls[i]?=ab x->ds[i]?=ab d->x.2.2.2.2.2.2.1=true/\x.2.2.2.2.2.1=0/\x.2.2.2.2.1=(d.length:Int)/\x.2.2.2.1=ky d/\sx d/\(eg ls ds x.1).2=0
open Classical in
def To(s:aA)(C:s.2.2.1.length<=100)(A:∀d∈s.2.2.2.1,d.length<=8192):∃b,jr (s,())=ab (b,())/\(b=true↔Fh s.2.2.1 s.2.2.2.1):=by
 have l:qd (s.2.2.1,())=ab (if(∀x∈s.2.2.1,(bj s.2.2.1 x.1).2=0) then 0 else 2,()):=by
  unfold qd;rcases iQ (f:=pz (s.2.2.1,())) s.2.2.1 (λi=>(((0:Int),i,()),())) (λ_ x=>decide ((bj s.2.2.1 x.1).2≠0)) (λi x=>(1,((2:Int),(i:Int),()),())) (0,((0:Int),len s.2.2.1,()),()) ai (λi x c m w=>by
   unfold pz;dsimp only;rw[aq m,ae,au c,aa,Rk _ x.1 ai,aa,w];by_cases h:(bj s.2.2.1 x.1).2=0
   .rw[aE h];simp[h,nt,ao]
   .rw[ax h];simp[h,nt,ao]) (by unfold pz;dsimp only;rw[ay,af];rfl) with ⟨i,x,c,y,_,h⟩|⟨z,h⟩
  .rw[h,aa,aQ λq=>by simp[q x<|eT c] at y];rfl
  .rw[h,aa,aW λx c=>by
   obtain⟨i,m⟩:=bz.1 c;have:=z i x m;simpa using this];rfl
 unfold jr;rw[l,aa];by_cases e:s.2.2.2.1.length=s.2.2.1.length
 .rw[aE<|show @len Tx s.2.2.2.1=@len aD s.2.2.1 by unfold len;omega,aF,az,ae,aa];by_cases g:∀x∈s.2.2.1,(bj s.2.2.1 x.1).2=0
  .rw[aW g,show nt (aS (0:Int) 0)=false from rfl,af];obtain⟨j,n⟩:∃j:Nat->aD->Prop,∀i x,j i x↔¬∃d,s.2.2.2.1[i]?=ab d/\x.2.2.2.2.2.2.1=true/\x.2.2.2.2.2.1=0/\x.2.2.2.2.1=(d.length:Int)/\x.2.2.2.1=ky d/\sx d/\(eg s.2.2.1 s.2.2.2.1 x.1).2=0:=⟨_,λ_ _=>gk⟩;rcases iQ (f:=gZ (s,())) s.2.2.1 (λi=>((false,i,()),())) (λi x=>decide (j i x)) (λi x=>(1,(false,(i:Int),()),())) (0,(false,len s.2.2.1,()),()) ai (λi x c m w=>by
    obtain⟨d,a⟩:∃d,s.2.2.2.1[i]?=ab d:=⟨_,ia (show i<s.2.2.2.1.length by omega)⟩;have B:=A d (eT a);unfold gZ;dsimp only;rw[aq m,ae,aq ai,ae,au c,aa,au a,aa,aa,HW d ai,aa,aa,xE d,aa,Fg s x.1 ai,aa,w];have k:j i x↔¬(x.2.2.2.2.2.2.1=true/\x.2.2.2.2.2.1=0/\x.2.2.2.2.1=(d.length:Int)/\x.2.2.2.1=ky d/\sx d/\(eg s.2.2.1 s.2.2.2.1 x.1).2=0):=by
     grind
    by_cases o:x.2.2.2.2.2.2.1=true
    rotate_left
    .rw[aW<|dE<|k.2 λq=>o q.1,show x.2.2.2.2.2.2.1=false by simpa using o];rfl
    rw[o,aF,af];by_cases p:x.2.2.2.2.2.1=0
    .rw[aE p,aF,af];by_cases r:x.2.2.2.2.1=(d.length:Int)
     .rw[show aS x.2.2.2.2.1 (@len UInt8 d)=true from aE r,aF,af,cZ];by_cases t:x.2.2.2.1=ky d
      .rw[dE t,aF,af];by_cases u:sx d
       .rw[aW<|show(DM d).2=0/\iw (DM d).1=true from u,show nt (aS (0:Int) 0)=false from rfl,af];by_cases v:(eg s.2.2.1 s.2.2.2.1 x.1).2=0
        .rw[aE v,aF,af,aQ (by rw[RG];exact λq=>k.1 q ⟨o,p,r,t,u,v⟩)]
        .rw[ax v,az,ae,aW (dE<|k.2 λq=>v q.2.2.2.2.2)]
       .rw[aQ<|show ¬((DM d).2=0/\iw (DM d).1=true) from u,show nt (aS (10:Int) 0)=true from rfl,ae,aW (dE<|k.2 λq=>u q.2.2.2.2.1)]
      .rw[cL t,az,ae,aW (dE<|k.2 λq=>t q.2.2.2.1)]
     .rw[show aS x.2.2.2.2.1 (@len UInt8 d)=false from ax r,az,ae,aW (dE<|k.2 λq=>r q.2.2.1)]
    .rw[ax p,az,ae,aW (dE<|k.2 λq=>p q.2.1)]) (by
    unfold gZ;dsimp only;rw[ay,af,af];rfl) with ⟨i,x,c,y,_,h⟩|⟨z,h⟩
   .rw[h,aa];refine⟨false,rfl,λq=>(by cases q),λq=>?_⟩;obtain⟨d,a⟩:∃d,s.2.2.2.1[i]?=ab d:=⟨_,ia (show i<s.2.2.2.1.length by have:=aG c;omega)⟩;exact absurd ⟨d,a,q.each i x d c a⟩ ((n i x).1<|iy y)
   .rw[h,aa];refine⟨true,rfl,λ_=>⟨e,g,λi x d c a=>?_⟩,λ_=>rfl⟩
    grind
  .rw[aQ g,show nt (aS (2:Int) 0)=true from rfl,ae];exact⟨false,rfl,λq=>(by cases q),λq=>absurd q.chain g⟩
 .rw[ax<|show @len Tx s.2.2.2.1≠@len aD s.2.2.1 by unfold len;omega,az,aF,af,aa,ae];exact⟨false,rfl,λq=>(by cases q),λq=>absurd q.same e⟩
structure BdS (s:aA):Prop where
 ll:s.2.2.1.length<=40
 il:s.2.1.length<=40
 bl:s.1.length<=40
 xl:∀x∈s.2.2.1,BdL x
 xi:∀x∈s.2.1,BdI x
 xb:∀x∈s.1,BdB x
 dl:∀d∈s.2.2.2.1,d.length<=8192
 ml:s.2.2.2.2.1.length<=1000000
def BdS.ald{s:aA}(h:BdS s):BdX (0,s.2.2.1,[],[],()) :=
 ⟨⟨h.ll,λx a=>(h.xl x a).2.2.1,aY,λx a=>(by cases a),aY,λx a=>(by cases a)⟩,h.xl,λx a=>(by cases a),λx a=>(by cases a)⟩
def BdS.ale{s:aA}(h:BdS s):BdX (0,[],s.2.1,[],()) :=
 ⟨⟨aY,λx a=>(by cases a),h.il,λx a=>(h.xi x a).2.1,aY,λx a=>(by cases a)⟩,λx a=>(by cases a),h.xi,λx a=>(by cases a)⟩
def BdS.alf{s:aA}(h:BdS s):BdX (0,[],[],s.1,()) :=
 ⟨⟨aY,λx a=>(by cases a),aY,λx a=>(by cases a),h.bl,λx a=>(h.xb x a).2.1⟩,λx a=>(by cases a),λx a=>(by cases a),h.xb⟩
def Rl(s:aA)(x:bI):Prop:=x.2.2.1=[]\/∃y∈s.2.2.1,y.1=x.2.2.1
def zL(s:aA)(x:ep):Prop:=(x.2.2.1=[]\/∃y∈s.2.1,y.1=x.2.2.1)/\∃y∈s.2.2.1,y.1=x.2.2.2.1
def Tp(s:aA)(x:fT):Prop:=(∃y∈s.2.2.1,y.1=x.1)/\1<=x.2.1/\x.2.1<=1000
structure NU (s:aA):Prop where
 b:AB 1 (0,[],[],s.1,())
 i:AB 2 (0,[],s.2.1,[],())
 l:AB 3 (0,s.2.2.1,[],[],())
 lays:Fh s.2.2.1 s.2.2.2.1
 ajG:s.2.2.2.2.1.length<=32
 tops:∀x∈s.2.1,Rl s x
 refs:∀x∈s.1,zL s x
 mts:∀x∈s.2.2.2.2.1,Tp s x
 aiZ:(s.2.2.2.2.1.map (·.1)).Pairwise λx y=>fq x y=true
def ajH{p:Prop}[Decidable p](h:p):¬decide (¬p)=true:=by simpa using h
def ajI{p:Prop}[Decidable p](h:¬p):decide (¬p)=true:=dE h
def afQ(s:aA)(x:ep)(b:s.2.1.length<=1000000)(c:Bool):∃q,Loop (oD (s,()) x) ((c,(0:Int),()),())=ab ((c||s.2.1.any (λy=>decide (y.1=x.2.2.1)),q),()):=by
 obtain⟨t,_,h,j⟩:=zB (f:=oD (s,()) x) s.2.1 (λ(c:Bool) i=>((c,i,()),())) (λc _ y=>c||decide (y.1=x.2.2.1)) (λc=>((c,(s.2.1.length:Int),()),())) (λ_ _=>True) ai (λc i y d b e _=>by
  refine⟨?_,trivial⟩;unfold oD;rw[aq b,ae,e];cases c with
  | true=>rfl
  | false =>
    rw[af,au d,aa,cZ];by_cases q:y.1=x.2.2.1<;>simp[q,dn]) (λc _=>by
  unfold oD;rw[ay,af];rfl) c trivial
 refine⟨((s.2.1.length:Int),()),h.trans ?_⟩;have:t=(c||s.2.1.any λy=>decide (y.1=x.2.2.1)):=by
  have key:∀(l:List bI) (k:Nat) (c:Bool),(l.zipIdx k).foldl (λa p=>a||decide (p.1.1=x.2.2.1)) c=(c||l.any λy=>decide (y.1=x.2.2.1)):=by
   intro l;induction l with
   | nil=>intro k c;simp
   | cons y r g=>intro k c;rw[List.zipIdx_cons,ZO,g];simp[ZT]
  grind
 grind
open Classical in
def acS(s:aA)(h:BdS s):∃b,l4 (s,())=ab (b,())/\(b=true↔NU s):=by
 have R:=h.ll;obtain⟨S,T,K⟩:=Cv 1 (0,[],[],s.1,()) (.inl rfl) rfl h.alf;obtain⟨U,V,L⟩:=Cv 2 (0,[],s.2.1,[],()) (.inr<|.inl rfl) rfl h.ale;obtain⟨W,X,M⟩:=Cv 3 (0,s.2.2.1,[],[],()) (.inr<|.inr rfl) rfl h.ald;obtain⟨N,Y,O⟩:=To s ai h.dl;have F:aZ (32:Int) (@len fT s.2.2.2.2.1)=decide (32<s.2.2.2.2.1.length):=by unfold aZ len;apply hH.2;omega
 unfold l4;rw[T,aa,E9 (by rw[V,aa]),E9 (by rw[X,aa]),E9 (by rw[Y,aa]),F];by_cases n:S=0
 rotate_left
 .rw[ax n];exact⟨false,rfl,λq=>(by cases q),λq=>absurd (K.2 q.b) n⟩
 by_cases r:U=0
 rotate_left
 .rw[aE n,ax r];exact⟨false,rfl,λq=>(by cases q),λq=>absurd (L.2 q.i) r⟩
 by_cases u:W=0
 rotate_left
 .rw[aE n,aE r,ax u];exact⟨false,rfl,λq=>(by cases q),λq=>absurd (M.2 q.l) u⟩
 by_cases A:N=true
 rotate_left
 .have:N=false:=by simpa using A
  rw[aE n,aE r,aE u,this];exact⟨false,rfl,λq=>(by cases q),λq=>absurd (O.2 q.lays) A⟩
 by_cases P:32<s.2.2.2.2.1.length
 .rw[aE n,aE r,aE u,A,dE P];exact⟨false,rfl,λq=>(by cases q),λq=>by have:=q.ajG;omega⟩
 rw[aE n,aE r,aE u,A,cL P];have e:∀id,mo (s,id,())=ab (BJ s.2.2.1 id,()):=λid=>NT s id ai;have g:∀id,aZ (BJ s.2.2.1 id) 0=decide (¬∃y∈s.2.2.1,y.1=id):=λid=>by unfold aZ;exact hH.2 afP
 rcases iQ (f:=oC (s,())) s.2.1 (λi=>((false,i,()),())) (λ_ x=>decide (¬Rl s x)) (λi x=>(1,(false,(i:Int),()),())) (0,(false,len s.2.1,()),()) (by have:=h.il;omega) (λi x d o v=>by
  unfold oC;rw[aq o,ae,au d,aa,cZ,v];by_cases q:x.2.2.1=[]
  .rw[dE q,aF,af,aQ (ajH<|show Rl s x from .inl q)]
  .rw[cL q,az,ae,aa,e,aa,g];by_cases z:∃y∈s.2.2.1,y.1=x.2.2.1
   .rw[cL<|λw=>w z,af,aQ (ajH<|show Rl s x from .inr z)]
   .rw[dE z,ae,aW (ajI<|show ¬Rl s x by rintro(w|w);exact q w;exact z w)]) (by
  unfold oC;dsimp only;rw[ay,af];rfl) with ⟨i,x,d,B,_,j⟩|⟨Q,j⟩
 .rw[j,aa];exact⟨false,rfl,λq=>(by cases q),λq=>absurd (q.tops x<|eT d) (iy B)⟩
 have t1:∀x∈s.2.1,Rl s x:=λx d=>by
  obtain⟨i,o⟩:=bz.1 d
  grind
 rw[j,aa];rcases iQ (f:=oE (s,())) s.1 (λi=>((false,i,()),())) (λ_ x=>decide (¬zL s x)) (λi x=>(1,(false,(i:Int),()),())) (0,(false,len s.1,()),()) (by have:=h.bl;omega) (λi x d o v=>by
  obtain⟨q,Z⟩:=afQ s x (by have:=h.il;omega) (bG x.2.2.1 []);unfold oE;rw[aq o,ae,au d,aa,Z,aa,v];rw[E9<|by rw[e,aa,g]];have G:(bG x.2.2.1 []||s.2.1.any λy=>decide (y.1=x.2.2.1))=decide (x.2.2.1=[]\/∃y∈s.2.1,y.1=x.2.2.1):=by
   rw[cZ,Bool.decide_or]
   grind
  rw[G];by_cases m:x.2.2.1=[]\/∃y∈s.2.1,y.1=x.2.2.1
  .by_cases p:∃y∈s.2.2.1,y.1=x.2.2.2.1
   .rw[dE m,cL (λw=>w p),aQ (ajH<|show zL s x from⟨m,p⟩)];rfl
   .rw[dE m,dE p,aW (ajI<|show ¬zL s x from λw=>p w.2)];rfl
  .rw[cL m,aW (ajI<|show ¬zL s x from λw=>m w.1)];rfl) (by
  unfold oE;dsimp only;rw[ay,af];rfl) with ⟨i,x,d,B,_,j⟩|⟨Q,j⟩
 .rw[j,aa];exact⟨false,rfl,λq=>(by cases q),λq=>absurd (q.refs x<|eT d) (iy B)⟩
 have t2:∀x∈s.1,zL s x:=λx d=>by
  obtain⟨i,o⟩:=bz.1 d
  grind
 rw[j,aa];obtain⟨t,c⟩:∃t:Nat->fT->Prop,∀i x,t i x↔¬(Tp s x/\∀(k:Nat) (y:fT),k+1=i->s.2.2.2.2.1[k]?=ab y->fq y.1 x.1=true):=⟨_,λ_ _=>gk⟩;rcases iQ (f:=oF (s,())) s.2.2.2.2.1 (λi=>((false,i,()),())) (λi x=>decide (t i x)) (λi x=>(1,(false,(i:Int),()),())) (0,(false,len s.2.2.2.2.1,()),()) (by have:=h.ml;omega) (λi x d o v=>by
  unfold oF;dsimp only;rw[aq o,ae,au d,aa,e,aa,g,v];by_cases m:∃y∈s.2.2.1,y.1=x.1
  rotate_left
  .rw[dE m,ae,aW (dE<|(c i x).2 λw=>m w.1.1)]
  rw[cL<|λw=>w m,af];by_cases p:1<=x.2.1
  rotate_left
  .rw[aP ai,ae,aW (dE<|(c i x).2 λw=>p w.1.2.1)]
  rw[aI ai,af];by_cases H:x.2.1<=1000
  rotate_left
  .rw[aP ai,ae,aW (dE<|(c i x).2 λw=>H w.1.2.2)]
  rw[aI ai,af];cases i with
  | zero =>
    rw[show aZ (0:Int) ((0:Nat):Int)=false from rfl,af,aQ (by rw[RG,c];exact λw=>w ⟨⟨m,p,H⟩,λk y I=>ai⟩)]
  | succ k =>
    obtain⟨y,C⟩:∃y,s.2.2.2.2.1[k]?=ab y:=⟨_,ia (show k<s.2.2.2.2.1.length by omega)⟩;rw[aP ai,ae,dL ai ai,show((k+1:Nat):Int)-1=(k:Int) by omega,au C,aa];by_cases E:fq y.1 x.1=true
    .rw[E,aF,af,aQ (by
     rw[RG,c];refine λw=>w ⟨⟨m,p,H⟩,λk' y' I D=>?_⟩;obtain rfl:k'=k:=ai;rw[C] at D;obtain rfl:=aR D;exact E)]
    .rw[show fq y.1 x.1=false by simpa using E,az,ae,aW (dE<|(c _ x).2 λw=>E (w.2 k y rfl C))]) (by
  unfold oF;dsimp only;rw[ay,af];rfl) with ⟨i,x,d,B,_,j⟩|⟨Q,j⟩
 .rw[j,aa];refine⟨false,rfl,λq=>(by cases q),λq=>absurd ⟨q.mts x<|eT d,λk y I C=>?_⟩ ((c i x).1<|iy B)⟩;subst I;exact Np.1 q.aiZ k y.1 x.1 (by rw[EC,C];rfl) (by rw[EC,d];rfl)
 rw[j,aa];have J:∀(i:Nat) (x:fT),s.2.2.2.2.1[i]?=ab x->Tp s x/\∀(k:Nat) (y:fT),k+1=i->s.2.2.2.2.1[k]?=ab y->fq y.1 x.1=true:=λi x d=>by
  grind
 refine⟨true,rfl,λ_=>⟨K.1 n,L.1 r,M.1 u,O.1 A,ai,t1,t2,λx d=>?_,Np.2 λi a b v hb=>?_⟩,λ_=>rfl⟩
 .obtain⟨i,o⟩:=bz.1 d
  grind
 .grind
def NV{b:Type}{p:b->Bool}:∀{l:List b} {x:b},x∈l.takeWhile p->p x=true:=by
 intro l;induction l with
 | nil=>intro x h;cases h
 | cons a r c =>
   intro x h;rw[RF] at h;split at h
   .rename_i d;rcases ld.1 h with rfl|h
    .exact d
    .exact c h
   .cases h
section
variable {α:Type} (key:α->Tx)
def kH(l:List α)(x:α):List α:=l.takeWhile (λy=>fq (key y) (key x))++[x]++l.dropWhile (λy=>fq (key y) (key x))
def cK(l:List α)(p:Tx):Nat:=(l.takeWhile λy=>fq (key y) p).length
def vu(l:List α):Prop:=(l.map key).Pairwise λx y=>fq x y=true
def pG(l:List α)(p:Tx):cK key l p<=l.length:=by
 unfold cK;have:=congrArg List.length (BP (p:=λy:α=>fq (key y) p) (l:=l));rw[hY] at this;omega
def AK(l:List α)(x:α):l.take (cK key l<|key x)=l.takeWhile (λy=>fq (key y) (key x))/\l.drop (cK key l<|key x)=l.dropWhile (λy=>fq (key y) (key x)):=by
 have e:=BP (p:=λy:α=>fq (key y) (key x)) (l:=l);refine⟨?_,?_⟩
 .unfold cK
  conv=>lhs;rw[<-e]
  rw[adO];rw[e]
 .unfold cK
  conv=>lhs;rw[<-e]
  rw[List.drop_left'];rw[e]
def tD(l:List α)(x:α)(a:l.length<=1000000):uU l ((cK key l (key x):Nat):Int) [x]=ab (kH key l x):=by
 have b:=pG key l (key x);unfold uU kH;rw[show inside 0 ((cK key l (key x):Nat):Int) (len l)=true from aU aK ai ft,bo (by simp only[eU,gj];omega)];rw[pS,(AK key l x).1,(AK key l x).2];rfl
def tE{S R:Type}{f:S->Option (S⊕R)}(l:List α)(p:Tx)(z:l.length<=1000000)(g:Int->S)(c:Nat->R)(d:R)
  (t:∀(i:Nat) (y:α),l[i]?=ab y->f (g (i:Int))=ab (if fq (key y) p=true then .inl (g ((i+1:Nat):Int)) else .inr (c i))) (u:f (g (l.length:Int))=ab (.inr d)) :
  Loop f (g 0)=ab (if cK key l p<l.length then c (cK key l p) else d):=by
 have m:∀k:Nat,k<=l.length->(∀(j:Nat) (y:α),j<k->l[j]?=ab y->fq (key y) p=true)->(∀y,l[k]?=ab y->fq (key y) p=false)->cK key l p=k:=by
  intro k n o q;have e:l.takeWhile (λy=>fq (key y) p)=l.take k:=by
   clear t u
   revert k
   induction l with
   | nil=>intro k n _ _;simp
   | cons a r A =>
     intro k n o q;cases k with
     | zero=>rw[RF,q a rfl];rfl
     | succ k =>
       rw[RF,o 0 a ai rfl,aW rfl,Ud,A (by simp at z;omega) k (by simp at n;omega) (λj y v b=>o (j+1) y ai b) λy b=>q y b]
  unfold cK;rw[e,km];omega
 rcases iQ (f:=f) l g (λ_ y=>!fq (key y) p) (λi _=>c i) d ai (λi y b w D=>by
  rw[t i y b];cases fq (key y) p<;>rfl) u with ⟨i,x,hx,B,v,h⟩|⟨C,h⟩
 .have w:=aG hx;have:=m i ai (λj y s b=>by simpa using v j y s b) (λy b=>by
   rw[hx] at b;obtain rfl:=aR b;simpa using B)
  rw[h,this,aW w]
 .have:=m l.length (cq _) (λj y _ b=>by simpa using C j y b) (λy b=>by rw[Lr<|cq _] at b;cases b);rw[h,this,aQ ai]
def Iy(l:List α)(x:α):(kH key l x).Perm (x::l):=by
 unfold kH;have e:=BP (p:=λy:α=>fq (key y) (key x)) (l:=l);have h:(l.takeWhile (λy=>fq (key y) (key x))++[x]++l.dropWhile λy=>fq (key y) (key x)).Perm (x::(l.takeWhile (λy=>fq (key y) (key x))++l.dropWhile λy=>fq (key y) (key x))):=by
  rw[uH];exact List.perm_middle
 rw[e] at h;exact h
def sy{l:List α}{x y:α}:y∈kH key l x↔y=x\/y∈l:=by rw[(Iy key l x).mem_iff,ld]
def qf(l:List α)(x:α):(kH key l x).length=l.length+1:=by rw[(Iy key l x).length_eq,eU]
def vu.inj{l:List α}(h:vu key l){x y:α}(f:x∈l)(g:y∈l)(e:key x=key y):x=y:=by
 unfold vu at h;rw[Ue] at h;obtain⟨i,a⟩:=bz.1 f;obtain⟨j,b⟩:=bz.1 g;have c:=aG a;have d:=aG b;rw[ia c] at a;rw[ia d] at b;obtain rfl:=aR a;obtain rfl:=aR b;rcases Qm i j with q|q|q
 .have:=DC.1 h i j c d q;rw[e,kt] at this;cases this
 .subst q;rfl
 .have:=DC.1 h j i d c q;rw[e,kt] at this;cases this
def ahZ{l:List α}(h:vu key l){x:α}(f:∀y∈l,key y≠key x):vu key (kH key l x):=by
 unfold vu at h⊢;rw[Ue] at h⊢;unfold kH;have e:=BP (p:=λy:α=>fq (key y) (key x)) (l:=l);have hA:∀y∈l.takeWhile (λy=>fq (key y) (key x)),fq (key y) (key x)=true:=λy hy=>NV (p:=λy=>fq (key y) (key x)) hy;have g:∀y∈l.dropWhile (λy=>fq (key y) (key x)),fq (key x) (key y)=true:=by
  clear e hA;induction l with
  | nil=>intro y hy;cases hy
  | cons a r i =>
    intro y hy;rw[Hr] at hy;rw[T7] at h;split at hy
    .exact i h.2 (λz j=>f z (vi _ j)) y hy
    .rename_i k;have c:fq (key x) (key a)=true:=by
      rcases Di (key a) (key x) with q|q|q
      .exact absurd q k
      .exact absurd q (f a<|pL ..)
      .exact q
     rcases ld.1 hy with rfl|hy
     .exact c
     .exact Dh c (h.1 y hy)
 rw[<-e] at h;rw[adC] at h;obtain⟨m,n,o⟩:=h;rw[uH,adC];refine⟨m,?_,λa c b d=>?_⟩
 .rw[ZD,T7];exact⟨g,n⟩
 .rw[ZD] at d;rcases ld.1 d with rfl|d
  .exact hA a c
  .exact o a c b d
def vg(l:List α)(p:Tx):List α:=l.filter λx=>decide (key x≠p)
def AL{l:List α}{p:Tx}{x:α}:x∈vg key l p↔x∈l/\key x≠p:=by unfold vg;rw[zj,RG]
def sz(l:List α)(p:Tx):(vg key l p).Sublist l:=List.filter_sublist
def Wp{l:List α}{p:Tx}(h:∀x∈l,key x≠p):vg key l p=l:=by
 unfold vg;rw[Hs];intro x a;exact dE (h x a)
def ah0{l:List α}(h:vu key l){i:Nat}{x:α}(b:l[i]?=ab x):l.take i++l.drop (i+1)=vg key l (key x):=by
 unfold vu at h;rw[Ue] at h;have a:=aG b;have hd:l.drop i=x::l.drop (i+1):=by
  rw[zg a];rw[ia a] at b;rw[aR b]
 have d:l=l.take i++(x::l.drop (i+1)):=by rw[<-hd,BR]
 rw[d,adC,T7] at h;obtain⟨_,⟨e,_⟩,f⟩:=h;unfold vg
 conv=>rhs;rw[d]
 rw[LA,List.filter_cons,aQ aY]
 congr 1
 .symm;rw[Hs];intro y c;exact dE (EX<|f y c x<|pL ..)
 .symm;rw[Hs];intro y c;exact dE λq=>EX (e y c) q.symm
end
abbrev tF:=Int×Tx×Int×Tx×al
def iZ(e:Int):tF:=(e,[],0,[],())
def xF(id:Tx):tF:=(0,id,0,[],())
def xG(s:aA):List Nm:=s.2.1.flatMap ofI
def eS(s:aA):List Nm:=s.2.2.1.flatMap ofL
def AM(s:aA):List Nm:=s.1.flatMap ofB
structure AN (s:aA):Prop where
 ll:s.2.2.1.length<=40
 il:s.2.1.length<=40
 bl:s.1.length<=40
 ln:∀x∈s.2.2.1,nZ x.2.2.1
 pV:∀x∈s.2.1,nZ x.2.1
 bn:∀x∈s.1,nZ x.2.1
 it:∀x∈s.2.1,tw x.2.2.2.2.1
def BdS.hd{s:aA}(h:BdS s):AN s:=⟨h.ll,h.il,h.bl,λx a=>(h.xl x a).2.2.1,λx a=>(h.xi x a).2.1,λx a=>(h.xb x a).2.1,λx a=>(h.xi x a).2.2.2⟩
def AN.ajJ{s:aA}(h:AN s):FewB (0,s.2.2.1,[],[],()):=⟨h.ll,h.ln,aY,λx a=>(by cases a),aY,λx a=>(by cases a)⟩
def AN.ah1{s:aA}(h:AN s):FewB (0,[],s.2.1,[],()):=⟨aY,λx a=>(by cases a),h.il,h.pV,aY,λx a=>(by cases a)⟩
def AN.ah2{s:aA}(h:AN s):FewB (0,[],[],s.1,()):=⟨aY,λx a=>(by cases a),aY,λx a=>(by cases a),h.bl,h.bn⟩
def Iz{s:aA}(h:AN s):Small (eS s):=Dm 3 _ h.ajJ
def Rm{s:aA}(h:AN s):Small (xG s):=Dm 2 _ h.ah1
def aaI{s:aA}(h:AN s):(eS s).length<=40:=jb (lW SM _) h.ll
def ah3{s:aA}(h:AN s):(xG s).length<=40:=jb (lW K2 _) h.il
def tG(s:aA)(h:AN s):lE (s,())=ab (eS s,()):=by
 unfold lE;rw[vZ 3 _ h.ajJ,aa];rfl
def zM(s:aA)(h:AN s):gK (s,())=ab (xG s,()):=by
 unfold gK;rw[vZ 2 _ h.ah1,aa];rfl
def gb(s:aA)(a:Tx)(h:AN s):dG (s,a,())=ab (aX (eS s) a):=by
 unfold dG;rw[tG s h,aa,mN _ _ (Iz h) (by have:=aaI h;omega),aa]
def Br(s:aA)(a:Tx)(h:AN s):iN (s,a,())=ab (aX (xG s) a):=by
 unfold iN;rw[zM s h,aa,mN _ _ (Rm h) (by have:=ah3 h;omega),aa]
def rv(l:List Tx)(h:l.length<=4294967296):bc (l,())=ab (l,()):=xf l h
def ry(l:List Item)(h:l.length<=4294967296):bQ (l,())=ab (l,()):=by
 unfold bQ;rw[cO h];rfl
def NW(s:aA)(x:bI)(p:s.2.1.length<=1000000)(v:x.2.1.length<=4294967296)(l:x.2.2.2.2.1.length<=4294967296)(m:∀y∈s.2.1,y.1≠x.1) :
  iD (s,x,())=ab ((s.1,(kH (·.1) s.2.1 x,s.2.2)),()):=by
 obtain⟨w,b,c⟩:=s;obtain⟨a,d,e,g,j,u⟩:=x;dsimp only at p v l m;unfold iD;dsimp only;rw[rv _ v,aa,ry _ l,aa];unfold ef;rw[aa,cO ai,ae];have r:Loop (fk ((w,b,c),(a,d,e,g,j,u),())) (((0:Int),(0:Int),()),(),a,())=ab (0,((0:Int),len b,()),(),a,()):=by
  rcases iQ (f:=fk ((w,b,c),(a,d,e,g,j,u),())) b (λi=>(((0:Int),i,()),(),a,())) (λ_ y=>decide (y.1=a)) (λi _=>(1,((i:Int),(i:Int),()),(),a,())) (0,((0:Int),len b,()),(),a,()) ai (λi y n l A=>by
   unfold fk ef;rw[aq l,ae,au n,aa,aa,cZ,eA,A];by_cases q:y.1=a<;>simp[q]) (by unfold fk;dsimp only;rw[ay,af];rfl) with ⟨i,y,n,B,_,_⟩|⟨_,h⟩
  .grind
  .exact h
 rw[r,aa];rw[bW,ae,show cj (0:Int) (-1)=false from rfl,af,aa];have o:=tE (f:=qy (((),()),b,())) (·.1) b a p (λi=>(((0:Int),i,()),(),(a,d,e,g,j,u),())) (λi=>(1,((i:Int),(i:Int),()),(),(a,d,e,g,j,u),()))
  (0,((0:Int),(b.length:Int),()),(),(a,d,e,g,j,u),()) (λi y n=>by
   have l:=aG n;unfold qy ef;dsimp only;rw[aq l,ae,aM ai ft,ae,au n,aa,aa,aa,aL ai];cases fq y.1 a<;>rfl) (by unfold qy;dsimp only;rw[ay,af])
 rw[o,aa];have k:=tD (·.1) b ((a,d,e,g,j,u):bI) p;unfold bH;by_cases z:cK (λy:bI=>y.1) b a<b.length
 .rw[aW z];dsimp only;rw[show da 1 0=false from rfl,af,aI ai,af];rw[show uU b ((cK (λy:bI=>y.1) b a:Nat):Int) [((a,d,e,g,j,u):bI)]=_ from k,aa]
 .rw[aQ z];have t:cK (λy:bI=>y.1) b a=b.length:=by have:=pG (λy:bI=>y.1) b a;omega
  rw[bW,ae,aP aK,ae];rw[bE,<-t,show uU b ((cK (λy:bI=>y.1) b a:Nat):Int) [((a,d,e,g,j,u):bI)]=_ from k,aa]
def xH(s:aA)(id:Tx)(h:AN s):∃r,mj (s,id,())=ab r/\(∀x∈s.2.1,vu (·.1) s.2.1->x.1=id->r=(x,true,())):=by
 unfold mj;rcases iQ (f:=qC (s,id,())) s.2.1 (λi=>((false,i,()),(([]:Tx),([]:List Tx),([]:Tx),([]:Tx),([]:List Item),()),())) (λ_ y=>decide (y.1=id)) (λi y=>(1,(true,(i:Int),()),y,())) (0,(false,len s.2.1,()),(([]:Tx),([]:List Tx),([]:Tx),([]:Tx),([]:List Item),()),()) (by have:=h.il;omega) (λi y a d k=>by
  have e:=eT a;unfold qC;rw[aq d,ae,au a,aa,cZ,k];by_cases q:y.1=id
  .rw[dE q,ae,rv _ (h.pV y e).small,aa,ry _ (by have:=(h.it y e).1;omega),aa];rfl
  .rw[cL q,af];rfl) (by unfold qC;dsimp only;rw[ay,af];rfl) with ⟨i,y,a,l,_,b⟩|⟨m,b⟩
 .rw[b,aa];refine⟨(y,true,()),rfl,λx c g j=>?_⟩;rw[g.inj (λz:bI=>z.1) c (eT a)<|j.trans (iy l).symm]
 .rw[b,aa];refine⟨_,rfl,λx c g j=>?_⟩;obtain⟨i,d⟩:=bz.1 c
  grind
def crI(s:aA)(b:Tx)(a:List Tx)(c:Tx)(d:Int):aA×tF×al :=
 if jk a≠0\/64<c.length then(s,iZ 1,()) else
 if b≠[]/\(aX (eS s) b).2.1≠0 then(s,iZ (aX (eS s) b).2.1,()) else
 if mL (xG s) [] a≠0 then(s,iZ<|mL (xG s) [] a,()) else
 if(cC (xG s) d).2.1≠0 then(s,iZ (cC (xG s) d).2.1,()) else
 ((s.1,(kH (·.1) s.2.1 ((cC (xG s) d).1,a,(if b=[] then [] else(aX (eS s) b).1),c,[],()),s.2.2)),xF (cC (xG s) d).1,())
def ah4{s:aA}{x:bI}(a:x∈s.2.1):((x.1,x.2.1,()):Nm)∈xG s:=by
 unfold xG;rw[Lv];exact⟨x,a,by unfold ofI;exact yE.2 rfl⟩
def GW(s:aA)(c:Tx)(a:List Tx)(b:Tx)(d:Int)(h:AN s)(k:a.length<=4294967296)(n:s.2.1.length<=1000000) :
  qA (s,c,a,b,d,())=ab (crI s c a b d):=by
 unfold qA crI;have l:aZ (64:Int) (@len UInt8 b)=decide (64<b.length):=by unfold aZ len;apply hH.2;omega
 rw[rm a k,aa,l];by_cases c1:jk a=0
 rotate_left
 .rw[aW<|.inl c1,ax c1];rfl
 by_cases c2:64<b.length
 .rw[aW<|.inr c2,aE c1,dE c2];rfl
 rw[aQ<|by rintro(q|q);exact q c1;exact c2 q,aE c1,cL c2,aF,az,ae,af,cZ];have g:=ot (xG s) [] a (Rm h) k;have e:=Ds (xG s) d;have rest:∀t:Tx,(ag (ao (aS (0:Int) 0) (ag (gK (s,())) λ(j:(List Nm)×al)=>ag (gz (j.1,([]:Tx),a,())) λ(f:Int×al)=>ab ((f.1,()),()))<|some (((0:Int),()),())) λ(j:(Int×al)×al)=>ag (ao (aS j.1.1 (0:Int))
   (ag (gK (s,())) λ(f:(List Nm)×al)=>ag (gL (f.1,d,())) λ(i:Tx×Int×al)=>ab ((i.2.1,()),(i.1,((a,t,b,([]:List Item),()):List Tx×Tx×Tx×List Item×al)),()))
   (ab ((j.1.1,()),(([]:Tx),a,t,b,([]:List Item),()),()))) λ(f:(Int×al)×bI×al)=>ao (nt<|aS f.1.1 (0:Int))
   (ag (jm (f.1.1,())) λ(i:tF×al)=>ab (s,i.1,()))
   (ag (iD (s,f.2.1,())) λ(i:aA×al)=>ab (i.1,((0:Int),f.2.1.1,(0:Int),([]:Tx),()),()))) =
   ab (if mL (xG s) [] a≠0 then(s,iZ<|mL (xG s) [] a,()) else
    if(cC (xG s) d).2.1≠0 then(s,iZ (cC (xG s) d).2.1,()) else
    ((s.1,(kH (·.1) s.2.1 ((cC (xG s) d).1,a,t,b,[],()),s.2.2)),xF (cC (xG s) d).1,())):=by
  intro t;rw[show aS (0:Int) 0=true from rfl,ae,zM s h,aa];rw[g,aa,aa];by_cases c4:mL (xG s) [] a=0
  rotate_left
  .rw[aW c4,ax c4,af,aa];rw[ax c4,az,ae];rfl
  rw[aQ<|λq=>q c4,aE c4,ae,aa];rw[e,aa,aa];by_cases c5:(cC (xG s) d).2.1=0
  rotate_left
  .rw[aW c5,ax c5,az,ae];rfl
  rw[aQ<|λq=>q c5,aE c5,aF,af];obtain⟨_,_,m⟩:=GJ c5;rw[NW s _ n k aY<|λy o=>m _ (ah4 o),aa];rfl
 by_cases c3:c=[]
 .rw[dE c3,aF,af,aa,aQ (λq=>q.1 c3),aW c3];simp_all
 .rw[cL c3,az,ae,gb s c h,aa,aa,aQ c3];by_cases c6:(aX (eS s) c).2.1=0
  .simp_all
  .rw[aW ⟨c3,c6⟩,ax c6,af,aa];rw[ax c6,af,aa];rw[ax c6,az,ae];rfl
set_option maxRecDepth 100000
abbrev dQ:=((List<|Sb×(List Sb)×Sb×Sb×Sb×(List<|Sb×Sb×Sb×al)×al)×(List<|Sb×(List Sb)×Sb×Sb×(List<|Sb×Sb×Sb×al)×al)×(List<|Sb×Sb×(List Sb)×Sb×Int×Int×Bool×al)×(List Sb)×(List<|Sb×Int×al)×al)
abbrev Tq:=((List<|Sb×(List Sb)×Sb×Sb×Sb×(List<|Sb×Sb×Sb×al)×al)×(List<|Sb×(List Sb)×Sb×Sb×(List<|Sb×Sb×Sb×al)×al)×(List<|Sb×Sb×(List Sb)×Sb×Int×Int×Bool×al)×al×(List<|Sb×Int×al)×al)
abbrev mz:=(Sb×(List Sb)×Sb×Sb×Sb×(List<|Sb×Sb×Sb×al)×al)
abbrev NX:=(Sb×Sb×(List Sb)×Sb×Int×Int×Bool×al)
abbrev mA:=(Int×Sb×Int×Sb×al)
abbrev oJ:=(Int×Int×Sb×Sb×(List Sb)×Sb×Sb×Int×al)
abbrev Tr:=(Sb×(List Sb)×Sb×Sb×(List<|Sb×Sb×Sb×al)×al)
abbrev Ts:=((Int×al)×Tq×(List Sb)×al)
abbrev NY:=(Sb×Sb×Sb×al)
abbrev qW:=(Int×Int×al)
abbrev GX:=(aw×((List aw)×(aw×(aw×(aw×((List<|aw×(aw×(aw×al)))×al))))))
abbrev Lg:=(Sb×(List Sb)×al)
abbrev Lh:=(Nat×qW×Sb×al)
abbrev GY:=(Bool×Int×al)
abbrev aaJ:=((al×Int×al)×(List Sb)×al)
abbrev alX:=((Nat×(Int×al)×Tq×(List Sb)×al))
abbrev Li:=(qW×Sb×al)
abbrev aaK:=(Nat×GY×al)
abbrev aaL:=((Int×al)×(al×al×al)×(List<|Int)×al)
abbrev aaM:=((al×Int×al)×(List mA)×dQ×al)
def bY(l:List GX)(x:(Int×((List GX)×al))):Option (List GX):=uU l x.1 x.2.1
def cH(l:List GX)(x:(Int×(Int×al))):Option (List GX):=HS l x.1 x.2.1
def pH(x:dQ×Sb×al):Option (mA×al) :=
 ag (dG (x.1,x.2.1,())) (λa=>ao (nt<|aS a.2.1 0)
 (ag (eB (a.2.1,())) λc=>ab (c.1,()))
 (ag (iO (x.1,a.1,())) λc=>ag (mw (x.1,a.1,())) λd=>ao (nt<|aS d.2.1 0)
 (ag (eB (d.2.1,())) λb=>ab (b.1,()))
 (ag (js (x.1,c.1.2.1,())) λb=>ao (nt<|aS b.2.1 0)
 (ag (eB (b.2.1,())) λe=>ab (e.1,()))
 (ag (qF (b.1,d.1,())) λe=>ag (we (e.1,())) λf=>ab (((0:Int),a.1,(0:Int),f.1,()),())))))
def kA(x:Int×al):Option (mA×al) :=
 ab ((x.1,([]:aw),(0:Int),([]:aw),()),())
def kB(x:dQ×al):Option ((List Lg)×al) :=
 ag (qR ((1:Int),((0:Int),([]:List NX),([]:List Tr),x.1.1,()),())) (λa=>ab (a.1,()))
def dC(x:(List mz)×al):Option ((List mz)×al) :=
 bif fits (len x.1) then ab (x.1,()) else ah
def jv(x:dQ×mz×al)(a:qW×Sb×al):Option (Li⊕Lh) :=
 ao (aZ a.1.2.1<|len x.1.1)
 (ao (within a.1.2.1<|len x.1.1)
 (ag (idx x.1.1 a.1.2.1) λb=>ao (bG b.1 a.2.1)
 (ab<|Sum.inr (1,(a.1.2.1,a.1.2.1,()),a.2.1,()))
 (ab<|Sum.inl ((a.1.1,aH i64 a.1.2.1 1,()),a.2.1,())))
 ah)
 (ab<|Sum.inr (0,(a.1.1,a.1.2.1,()),a.2.1,()))
def sA(x:dQ×mz×al)(a:qW×mz×al):Option ((qW×mz×al)⊕(Nat×qW×mz×al)) :=
 ao (aZ a.1.2.1<|len x.1.1)
 (ao (within a.1.2.1<|len x.1.1)
 (ag (idx x.1.1 a.1.2.1) λb=>ao (nt<|fq b.1 a.2.1.1)
 (ab<|Sum.inr (1,(a.1.2.1,a.1.2.1,()),a.2.1,()))
 (ab<|Sum.inl ((a.1.1,aH i64 a.1.2.1 1,()),a.2.1,())))
 ah)
 (ab<|Sum.inr (0,(a.1.1,a.1.2.1,()),a.2.1,()))
def sB(b:(al×al)×(List mz)×al)(a:qW×mz×al):Option ((qW×mz×al)⊕(Nat×qW×mz×al)) :=
 ao (aZ a.1.2.1<|len b.2.1)
 (ao (within a.1.2.1<|len b.2.1)
 (ag (idx b.2.1 a.1.2.1) λc=>ao (nt<|fq c.1 a.2.1.1)
 (ab<|Sum.inr (1,(a.1.2.1,a.1.2.1,()),a.2.1,()))
 (ab<|Sum.inl ((a.1.1,aH i64 a.1.2.1 1,()),a.2.1,())))
 ah)
 (ab<|Sum.inr (0,(a.1.1,a.1.2.1,()),a.2.1,()))
def kh(x:dQ×mz×al):Option (dQ×al) :=
 ao (fits<|len x.1.1)
 (ag (Loop (jv x) (((0:Int),(0:Int),()),x.2.1.1,())) λd=>ao (da d.1 0)
 (ag (bc (x.2.1.2.1,())) λa=>ag (bQ (x.2.1.2.2.2.2.2.1,())) λe=>ag (Loop (sA x) (((0:Int),(0:Int),()),(x.2.1.1,a.1,x.2.1.2.2.1,x.2.1.2.2.2.1,x.2.1.2.2.2.2.1,e.1,x.2.1.2.2.2.2.2.2),())) λc=>ao (da c.1 0)
 (ag (bY x.1.1 ((((len x.1.1,()),()).1).1,([c.2.2.1]:List mz),())) λb=>ab ((b,x.1.2.1,x.1.2.2.1,x.1.2.2.2.1,x.1.2.2.2.2.1,x.1.2.2.2.2.2),()))
 (ag (bY x.1.1 (((ao (aZ c.2.1.1 0)
 ((len x.1.1,()),())
 ((c.2.1.1,()),())).1).1,([c.2.2.1]:List mz),())) λb=>ab ((b,x.1.2.1,x.1.2.2.1,x.1.2.2.2.1,x.1.2.2.2.2.1,x.1.2.2.2.2.2),())))
 (ag (ao (cj 0 d.2.1.1)
 (ag (cH x.1.1 (d.2.1.1,aH i64 d.2.1.1 1,())) λa=>ab (((),()),a,()))
 (ab (((),()),x.1.1,()))) λa=>ag (bc (x.2.1.2.1,())) λe=>ag (bQ (x.2.1.2.2.2.2.2.1,())) λc=>ag (Loop (sB a) (((0:Int),(0:Int),()),(x.2.1.1,e.1,x.2.1.2.2.1,x.2.1.2.2.2.1,x.2.1.2.2.2.2.1,c.1,x.2.1.2.2.2.2.2.2),())) λb=>ao (da b.1 0)
 (ag (bY a.2.1 ((((len a.2.1,()),()).1).1,([b.2.2.1]:List mz),())) λf=>ab ((f,x.1.2.1,x.1.2.2.1,x.1.2.2.2.1,x.1.2.2.2.2.1,x.1.2.2.2.2.2),()))
 (ag (bY a.2.1 (((ao (aZ b.2.1.1 0)
 ((len a.2.1,()),())
 ((b.2.1.1,()),())).1).1,([b.2.2.1]:List mz),())) λf=>ab ((f,x.1.2.1,x.1.2.2.1,x.1.2.2.2.1,x.1.2.2.2.2.1,x.1.2.2.2.2.2),()))))
 ah
def lO(x:dQ×Sb×(List Sb)×Sb×Int×al):Option (dQ×mA×al) :=
 ag (fH (x.2.2.1,())) (λg=>ao (ao (nt<|nt<|aS g.1 0)
 (aZ 64<|len x.2.2.2.1)
 true)
 (ag (kA ((1:Int),())) λb=>ab (x.1,b.1,()))
 (ag (ao (nt<|bG x.2.1 ([]:aw))
 (ag (iN (x.1,x.2.1,())) λb=>ab ((b.2.1,()),(([]:aw),x.2.2.1,b.1,([]:aw),x.2.2.2.1,([]:List NY),()),()))
 (ab (((0:Int),()),(([]:aw),x.2.2.1,([]:aw),([]:aw),x.2.2.2.1,([]:List NY),()),()))) λb=>ag (ao (aS b.1.1 0)
 (ag (kB (x.1,())) λe=>ag (gz (e.1,([]:aw),x.2.2.1,())) λa=>ab ((a.1,()),()))
 (ab ((b.1.1,()),()))) λe=>ag (ao (aS e.1.1 0)
 (ag (kB (x.1,())) λa=>ag (gL (a.1,jV i64 x.2.2.2.2.1 16777215,())) λc=>ab ((c.2.1,()),(c.1,b.2.1.2),()))
 (ab ((e.1.1,()),b.2.1,()))) λa=>ao (nt<|aS a.1.1 0)
 (ag (kA (a.1.1,())) λc=>ab (x.1,c.1,()))
 (ag (mj (x.1,a.2.1.2.2.1,())) λc=>ag (hU (x.1,(((((ao (bG x.2.1 ([]:aw))
 ((),(([]:aw),([]:List Sb),([]:aw),([]:aw),([]:List NY),()),())
 ((),c.1,())).2).1).2).2).1,([]:List Sb),([]:aw),jV i64 (mE i64 x.2.2.2.2.1 24) 16777215,())) λd=>ao (nt<|aS d.2.1.1 0)
 (ag (kA (d.2.1.1,())) λf=>ab (x.1,f.1,()))
 (ag (kh (d.1,(a.2.1.1,a.2.1.2.1,a.2.1.2.2.1,d.2.1.2.1,a.2.1.2.2.2.2),())) λf=>ab (f.1,((0:Int),a.2.1.1,(0:Int),d.2.1.2.1,()),())))))
def wy(x:dQ×Sb×al):Option (Sb×Int×al) :=
 ag (kB (x.1,())) (λb=>ag (iM (b.1,x.2.1,())) λa=>ab (a.1,a.2.1,()))
def sC(x:dQ×Sb×al)(a:qW×Sb×al):Option (Li⊕Lh) :=
 ao (aZ a.1.2.1<|len x.1.1)
 (ag (idx x.1.1 a.1.2.1) λb=>ao (bG b.1 a.2.1)
 (ab<|Sum.inr (1,(a.1.2.1,a.1.2.1,()),a.2.1,()))
 (ab<|Sum.inl ((a.1.1,aH i64 a.1.2.1 1,()),a.2.1,())))
 (ab<|Sum.inr (0,(a.1.1,a.1.2.1,()),a.2.1,()))
def rz(x:dQ×Sb×al):Option (mz×Bool×al) :=
 ag (Loop (sC x) (((0:Int),(0:Int),()),x.2.1,())) (λb=>ao (da b.1 0)
 (ab ((([]:aw),([]:List Sb),([]:aw),([]:aw),([]:aw),([]:List NY),()),false,()))
 (ao (aZ b.2.1.1 0)
 (ab ((([]:aw),([]:List Sb),([]:aw),([]:aw),([]:aw),([]:List NY),()),false,()))
 (ag (idx x.1.1 b.2.1.1) λa=>ag (bc (a.2.1,())) λc=>ag (bQ (a.2.2.2.2.2.1,())) λd=>ab ((a.1,c.1,a.2.2.1,a.2.2.2.1,a.2.2.2.2.1,d.1,a.2.2.2.2.2.2),true,()))))
def nS(x:dQ×Sb×al)(a:qW×Sb×al):Option (Li⊕Lh) :=
 ao (aZ a.1.2.1<|len x.1.1)
 (ao (within a.1.2.1<|len x.1.1)
 (ag (idx x.1.1 a.1.2.1) λb=>ao (bG b.1 a.2.1)
 (ab<|Sum.inr (1,(a.1.2.1,a.1.2.1,()),a.2.1,()))
 (ab<|Sum.inl ((a.1.1,aH i64 a.1.2.1 1,()),a.2.1,())))
 ah)
 (ab<|Sum.inr (0,(a.1.1,a.1.2.1,()),a.2.1,()))
def sD(x:dQ×Sb×al):Option (dQ×mA×al) :=
 ag (wy (x.1,x.2.1,())) (λc=>ao (nt<|aS c.2.1 0)
 (ag (kA (c.2.1,())) λa=>ab (x.1,a.1,()))
 (ag (rz (x.1,c.1,())) λa=>ao (fits<|len x.1.1)
 (ag (Loop (nS x) (((0:Int),(0:Int),()),c.1,())) λf=>ao (da f.1 0)
 (ag (dB (x.1,a.1.2.2.2.1,())) λd=>ag (ao (nt<|aZ 0 d.1)
 (ag (pB ((x.1.1,x.1.2.1,x.1.2.2.1,x.1.2.2.2.1,x.1.2.2.2.2.1,x.1.2.2.2.2.2),a.1.2.2.2.1,())) λe=>ab e.1)
 (ab true)) λe=>ao e
 (ag (kA ((7:Int),())) λb=>ab (x.1,b.1,()))
 (ag (jT ((x.1.1,x.1.2.1,x.1.2.2.1,x.1.2.2.2.1,x.1.2.2.2.2.1,x.1.2.2.2.2.2),a.1.2.2.2.1,())) λb=>ab (b.1,((0:Int),c.1,(0:Int),([]:aw),()),())))
 (ag (ao (cj 0 f.2.1.1)
 (ag (cH x.1.1 (f.2.1.1,aH i64 f.2.1.1 1,())) λd=>ab (((),()),d,()))
 (ab (((),()),x.1.1,()))) λd=>ag (dB (x.1,a.1.2.2.2.1,())) λe=>ag (ao (nt<|aZ 0 e.1)
 (ag (pB ((d.2.1,x.1.2.1,x.1.2.2.1,x.1.2.2.2.1,x.1.2.2.2.2.1,x.1.2.2.2.2.2),a.1.2.2.2.1,())) λb=>ab b.1)
 (ab true)) λb=>ao b
 (ag (kA ((7:Int),())) λg=>ab (x.1,g.1,()))
 (ag (jT ((d.2.1,x.1.2.1,x.1.2.2.1,x.1.2.2.2.1,x.1.2.2.2.2.1,x.1.2.2.2.2.2),a.1.2.2.2.1,())) λg=>ab (g.1,((0:Int),c.1,(0:Int),([]:aw),()),()))))
 ah))
def gh(x:(List<|Int)×Int×al)(a:qW×al):Option ((qW×al)⊕(Nat×qW×al)) :=
 ao (aZ a.1.2.1<|len x.1)
 (ag (idx x.1 a.1.2.1) λb=>ao (aS x.2.1 b)
 (ab<|Sum.inr (1,(a.1.2.1,a.1.2.1,()),()))
 (ab<|Sum.inl ((a.1.1,aH i64 a.1.2.1 1,()),())))
 (ab<|Sum.inr (0,(a.1.1,a.1.2.1,()),()))
def iI(x:(List<|Int)×Int×al):Option (Int×al) :=
 ag (Loop (gh x) (((0:Int),(0:Int),()),())) (λa=>ao (da a.1 0)
 (ab ((-1:Int),()))
 (ab (a.2.1.1,())))
def dd(x:(List<|Int)×Int×al):Option (Bool×al) :=
 ag (iI (x.1,x.2.1,())) (λa=>ab (cj 0 a.1,()))
def xI(x:oJ×(List<|Int)×al):Option ((List<|Int)×al) :=
 ag (dd (x.2.1,x.1.2.1,())) (λa=>ao a.1
 (ab (([x.1.2.1]:List (Int)),()))
 (ab (([]:List (Int)),())))
def iP(x:oJ×al):Option ((List<|Int)×al) :=
 ao (((ao (aS x.1.1 2)
 ((aS x.1.1 2,()),())
 ((((ao (aS x.1.1 11)
 ((aS x.1.1 11,()),())
 ((aS x.1.1 12,()),())).1).1,()),())).1).1)
 (ab (([(1:Int),2,3]:List (Int)),()))
 (ao (aS x.1.1 7)
 (ab (([(2:Int),3]:List (Int)),()))
 (ao (aS x.1.1 8)
 (ab (([(1:Int),2]:List (Int)),()))
 (ao (((ao (aS x.1.1 1)
 ((aS x.1.1 1,()),())
 ((((ao (aS x.1.1 3)
 ((aS x.1.1 3,()),())
 ((((ao (aS x.1.1 4)
 ((aS x.1.1 4,()),())
 ((((ao (aS x.1.1 5)
 ((aS x.1.1 5,()),())
 ((aS x.1.1 6,()),())).1).1,()),())).1).1,()),())).1).1,()),())).1).1)
 (ab (([(3:Int)]:List (Int)),()))
 (ao (((ao (aS x.1.1 9)
 ((aS x.1.1 9,()),())
 ((aS x.1.1 10,()),())).1).1)
 (ag (xI (x.1,([(1:Int),2]:List (Int)),())) λa=>ab (a.1,()))
 (ao (((ao (aS x.1.1 13)
 ((aS x.1.1 13,()),())
 ((((ao (aS x.1.1 14)
 ((aS x.1.1 14,()),())
 ((aS x.1.1 15,()),())).1).1,()),())).1).1)
 (ag (xI (x.1,([(1:Int),2,3]:List (Int)),())) λa=>ab (a.1,()))
 (ab (([]:List (Int)),())))))))
def fh(x:Int×al):Option (mA×al) :=
 ab ((x.1,([]:aw),(0:Int),([]:aw),()),())
def qg(x:dQ×Int×al):Option ((List Lg)×al) :=
 ag (qR (x.2.1,((0:Int),x.1.2.2.1,x.1.2.1,x.1.1,()),())) (λa=>ab (a.1,()))
def wz(x:dQ×oJ×al):Option (dQ×mA×al) :=
 ag (iP (x.2.1,())) (λf=>ag (dd (f.1,x.2.1.2.1,())) λg=>ao (nt g.1)
 (ag (fh ((1:Int),())) λe=>ab (x.1,e.1,()))
 (ag (qg (x.1,x.2.1.2.1,())) λe=>ag (iM (e.1,x.2.1.2.2.1,())) λd=>ao (nt<|aS d.2.1 0)
 (ag (fh (d.2.1,())) λa=>ab (x.1,a.1,()))
 (ao (aS x.2.1.2.1 1)
 (ag (rz (x.1,d.1,())) λa=>ao (aS x.2.1.1 10)
 (ag (lD (a.1.2.2.2.2.2.1,x.2.1.2.2.2.2.2.2.1,())) λb=>ao (nt<|aS b.2.1 0)
 (ag (fh (b.2.1,())) λc=>ab (x.1,c.1,()))
 (ab (x.1,((0:Int),d.1,(0:Int),b.1,()),())))
 (ag (lC (a.1.2.2.2.2.2.1,x.2.1.2.2.2.2.2.2.1,x.2.1.2.2.2.2.2.1,())) λb=>ao (nt<|aS b.2.1 0)
 (ag (fh (b.2.1,())) λc=>ab (x.1,c.1,()))
 (ag (kh (x.1,(a.1.1,a.1.2.1,a.1.2.2.1,a.1.2.2.2.1,a.1.2.2.2.2.1,b.1,a.1.2.2.2.2.2.2),())) λc=>ab (c.1,((0:Int),d.1,(0:Int),([]:aw),()),()))))
 (ag (mj (x.1,d.1,())) λa=>ao (aS x.2.1.1 10)
 (ag (lD (a.1.2.2.2.2.1,x.2.1.2.2.2.2.2.2.1,())) λb=>ao (nt<|aS b.2.1 0)
 (ag (fh (b.2.1,())) λc=>ab (x.1,c.1,()))
 (ab (x.1,((0:Int),d.1,(0:Int),b.1,()),())))
 (ag (lC (a.1.2.2.2.2.1,x.2.1.2.2.2.2.2.2.1,x.2.1.2.2.2.2.2.1,())) λb=>ao (nt<|aS b.2.1 0)
 (ag (fh (b.2.1,())) λc=>ab (x.1,c.1,()))
 (ag (iD (x.1,(a.1.1,a.1.2.1,a.1.2.2.1,a.1.2.2.2.1,b.1,a.1.2.2.2.2.2),())) λc=>ab (c.1,((0:Int),d.1,(0:Int),([]:aw),()),())))))))
def pI(x:(List Lg)×al)(a:(Int×al)×(al×al×al)×(List<|Int)×al):Option (aaL⊕aaL) :=
 dn (ao (aZ a.1.1<|len x.1)
 (ag (idx x.1 a.1.1) λb=>ao (fits<|plus (len ([b.1]:List Sb))<|len b.2.1)
 (ag (lj (app ([b.1]:List Sb) b.2.1,([32]:aw),())) λc=>ao (fits<|plus (len c.1)<|len ([10]:aw))
 (ao (fits<|plus (len a.2.2.1)<|len<|aC<|app c.1 ([10]:aw))
 (ab<|Sum.inl ((aH i64 a.1.1 1,()),((),(),a.2.1.2.2),app a.2.2.1<|aC<|app c.1 ([10]:aw),()))
 ah)
 ah)
 ah)
 (ab<|Sum.inr (0,(a.1.1,()),((),(),a.2.1.2.2),a.2.2.1,())))
def y3(x:(List Lg)×al):Option (Sb×al) :=
 ag (Loop (pI x) (((0:Int),()),((),(),()),([]:List (Int)),())) (λa=>ab (bu a.2.2.1,()))
def mB(x:dQ×Int×Sb×(List Sb)×al)(a:qW×Sb×al):Option (Li⊕Lh) :=
 ao (aZ a.1.2.1<|len x.1.2.2.1)
 (ao (within a.1.2.1<|len x.1.2.2.1)
 (ag (idx x.1.2.2.1 a.1.2.1) λb=>ao (bG b.1 a.2.1)
 (ab<|Sum.inr (1,(a.1.2.1,a.1.2.1,()),a.2.1,()))
 (ab<|Sum.inl ((a.1.1,aH i64 a.1.2.1 1,()),a.2.1,())))
 ah)
 (ab<|Sum.inr (0,(a.1.1,a.1.2.1,()),a.2.1,()))
def hW(x:dQ×Int×Sb×(List Sb)×al):Option (dQ×al) :=
 ao (aS x.2.1 1)
 (ag (rz (x.1,x.2.2.1,())) λa=>ag (kh (x.1,(a.1.1,x.2.2.2.1,a.1.2.2),())) λb=>ab (b.1,()))
 (ao (aS x.2.1 2)
 (ag (mj (x.1,x.2.2.1,())) λa=>ag (iD (x.1,(a.1.1,x.2.2.2.1,a.1.2.2),())) λb=>ab (b.1,()))
 (ao (fits<|len x.1.2.2.1)
 (ag (ag (Loop (mB x) (((0:Int),(0:Int),()),x.2.2.1,())) λa=>ao (da a.1 0)
 (ab (((-1:Int),()),a.2.2.1,()))
 (ab ((a.2.1.1,()),a.2.2.1,()))) λa=>ag (bc (x.2.2.2.1,())) λb=>ao (within a.1.1<|len x.1.2.2.1)
 (ag (idx x.1.2.2.1 a.1.1) λd=>ag (idx x.1.2.2.1 a.1.1) λe=>ag (idx x.1.2.2.1 a.1.1) λc=>ab ((x.1.1,x.1.2.1,lS x.1.2.2.1 a.1.1 (c.1,c.2.1,b.1,c.2.2.2),x.1.2.2.2.1,x.1.2.2.2.2.1,x.1.2.2.2.2.2),()))
 ah)
 ah))
def sE(x:dQ×oJ×al):Option (dQ×mA×al) :=
 ag (qg (x.1,x.2.1.2.1,())) (λe=>ag (iP (x.2.1,())) λf=>ag (dd (f.1,x.2.1.2.1,())) λg=>ao (nt g.1)
 (ag (fh ((1:Int),())) λa=>ab (x.1,a.1,()))
 (ao (aS x.2.1.1 15)
 (ag (y3 (e.1,())) λa=>ab (x.1,((0:Int),([]:aw),(0:Int),a.1,()),()))
 (ag (ao (aS x.2.1.1 13)
 (ag (fH (x.2.1.2.2.2.2.1,())) λa=>ab (nt<|aS a.1 0))
 (ab false)) λa=>ao a
 (ag (fh ((1:Int),())) λb=>ab (x.1,b.1,()))
 (ag (iM (e.1,x.2.1.2.2.1,())) λb=>ag (ao (ao (aS b.2.1 0)
 (aS x.2.1.1 13)
 false)
 (ag (gz (e.1,b.1,x.2.1.2.2.2.2.1,())) λd=>ab ((d.1,()),()))
 (ab ((b.2.1,()),()))) λd=>ao (nt<|aS d.1.1 0)
 (ag (fh (d.1.1,())) λc=>ab (x.1,c.1,()))
 (ag (ao (aS x.2.1.1 13)
 (ag (hW (x.1,x.2.1.2.1,b.1,x.2.1.2.2.2.2.1,())) λc=>ab ((),c.1,()))
 (ab ((),x.1,()))) λc=>ab (c.2.1,((0:Int),b.1,(0:Int),([]:aw),()),()))))))
def dR(x:dQ×oJ×al):Option (dQ×mA×al) :=
 ao (aS x.2.1.1 1)
 (ag (hU (x.1,x.2.1.2.2.2.1,x.2.1.2.2.2.2.1,x.2.1.2.2.2.2.2.1,x.2.1.2.2.2.2.2.2.2.1,())) λa=>ab (a.1,a.2.1,()))
 (ao (aS x.2.1.1 2)
 (ag (qL (x.1,x.2.1.2.2.1,())) λa=>ab (a.1,a.2.1,()))
 (ao (aS x.2.1.1 3)
 (ag (uy (x.1,x.2.1.2.2.1,())) λa=>ab (x.1,a.1,()))
 (ao (aS x.2.1.1 4)
 (ag (pH (x.1,x.2.1.2.2.1,())) λa=>ab (x.1,a.1,()))
 (ao (aS x.2.1.1 5)
 (ag (xv (x.1,x.2.1.2.2.1,())) λa=>ab (a.1,a.2.1,()))
 (ao (aS x.2.1.1 6)
 (ag (tr (x.1,x.2.1.2.2.1,())) λa=>ab (a.1,a.2.1,()))
 (ao (aS x.2.1.1 7)
 (ag (qA (x.1,x.2.1.2.2.2.1,x.2.1.2.2.2.2.1,x.2.1.2.2.2.2.2.1,x.2.1.2.2.2.2.2.2.2.1,())) λa=>ab (a.1,a.2.1,()))
 (ao (aS x.2.1.1 8)
 (ag (qB (x.1,x.2.1.2.2.1,())) λa=>ab (a.1,a.2.1,()))
 (ao (aS x.2.1.1 11)
 (ag (lO (x.1,x.2.1.2.2.2.1,x.2.1.2.2.2.2.1,x.2.1.2.2.2.2.2.1,x.2.1.2.2.2.2.2.2.2.1,())) λa=>ab (a.1,a.2.1,()))
 (ao (aS x.2.1.1 12)
 (ag (sD (x.1,x.2.1.2.2.1,())) λa=>ab (a.1,a.2.1,()))
 (ao (((ao (aS x.2.1.1 9)
 ((aS x.2.1.1 9,()),())
 ((aS x.2.1.1 10,()),())).1).1)
 (ag (wz (x.1,x.2.1,())) λa=>ab (a.1,a.2.1,()))
 (ao (((ao (aS x.2.1.1 13)
 ((aS x.2.1.1 13,()),())
 ((((ao (aS x.2.1.1 14)
 ((aS x.2.1.1 14,()),())
 ((aS x.2.1.1 15,()),())).1).1,()),())).1).1)
 (ag (sE (x.1,x.2.1,())) λa=>ab (a.1,a.2.1,()))
 (ag (fh ((1:Int),())) λa=>ab (x.1,a.1,())))))))))))))
def gO(x:dQ×(List oJ)×al)(a:(al×Int×al)×(List mA)×dQ×al):Option (aaM⊕aaM) :=
 dn (ao (aZ a.1.2.1<|len x.2.1)
 (ag (idx x.2.1 a.1.2.1) λc=>ag (dR (a.2.2.1,c,())) λb=>ao (fits<|plus (len a.2.1)<|len ([b.2.1]:List mA))
 (ab<|Sum.inl (((),aH i64 a.1.2.1 1,()),app a.2.1 ([b.2.1]:List mA),b.1,()))
 ah)
 (ab<|Sum.inr (0,((),a.1.2.1,()),a.2.1,a.2.2.1,())))
def yv(x:dQ×(List oJ)×al):Option (dQ×(List mA)×al) :=
 ag (Loop (gO x) (((),(0:Int),()),([]:List mA),x.1,())) (λa=>ab (a.2.2.1,a.2.1,()))
def AO(x:(List mA)×(List mA)×al)(a:GY×al):Option ((GY×al)⊕aaK) :=
 ao (ao (aZ a.1.2.1<|len x.1)
 (aZ a.1.2.1<|len x.2.1)
 false)
 (ag (idx x.1 a.1.2.1) λb=>ag (idx x.2.1 a.1.2.1) λc=>ao (nt<|an (aS b.1 c.1)<|an (bG b.2.1 c.2.1)<|an (aS b.2.2.1 c.2.2.1)<|an (bG b.2.2.2.1 c.2.2.2.1) true)
 (ab<|Sum.inr (1,(false,a.1.2.1,()),()))
 (ab<|Sum.inl ((a.1.1,aH i64 a.1.2.1 1,()),())))
 (ab<|Sum.inr (0,(a.1.1,a.1.2.1,()),()))
def kZ(x:(List mA)×(List mA)×al):Option (Bool×al) :=
 ao (nt<|aS (len x.1)<|len x.2.1)
 (ab (false,()))
 (ag (Loop (AO x) ((false,(0:Int),()),())) λa=>ao (da a.1 0)
 (ab (true,()))
 (ab (a.2.1.1,())))
def DN(x:(List<|Int)×(List<|Int)×al)(a:GY×al):Option ((GY×al)⊕aaK) :=
 ao (ao (aZ a.1.2.1<|len x.1)
 (aZ a.1.2.1<|len x.2.1)
 false)
 (ag (idx x.1 a.1.2.1) λb=>ag (idx x.2.1 a.1.2.1) λc=>ao (nt<|aS b c)
 (ab<|Sum.inr (1,(false,a.1.2.1,()),()))
 (ab<|Sum.inl ((a.1.1,aH i64 a.1.2.1 1,()),())))
 (ab<|Sum.inr (0,(a.1.1,a.1.2.1,()),()))
def tH(x:(List<|Int)×(List<|Int)×al):Option (Bool×al) :=
 ao (nt<|aS (len x.1)<|len x.2.1)
 (ab (false,()))
 (ag (Loop (DN x) ((false,(0:Int),()),())) λa=>ao (da a.1 0)
 (ab (true,()))
 (ab (a.2.1.1,())))
def nw(x:al):Option (Bool×al) :=
 ag (yv ((([]:List mz),([]:List Tr),([]:List NX),([]:List Sb),([]:List (Sb×Int×al)),()),([((1:Int),(0:Int),([]:aw),([]:aw),([([98,97,115,101]:aw)]:List Sb),([]:aw),([]:aw),(1:Int),()),((7:Int),(0:Int),([]:aw),([98,97,115,101]:aw),([([119,101,98]:aw)]:List Sb),([]:aw),([]:aw),(2:Int),()),((11:Int),(0:Int),([]:aw),([119,101,98]:aw),([]:List Sb),([]:aw),([]:aw),(67108867:Int),()),((2:Int),(0:Int),([98,97,115,101]:aw),([]:aw),([]:List Sb),([]:aw),([]:aw),(0:Int),()),((9:Int),(2:Int),([119,101,98]:aw),([]:aw),([]:List Sb),([118]:aw),([107]:aw),(0:Int),()),((10:Int),(2:Int),([48]:aw),([]:aw),([]:List Sb),([]:aw),([107]:aw),(0:Int),()),((15:Int),(3:Int),([]:aw),([]:aw),([]:List Sb),([]:aw),([]:aw),(0:Int),()),((99:Int),(0:Int),([]:aw),([]:aw),([]:List Sb),([]:aw),([]:aw),(0:Int),())]:List oJ),())) (λc=>ag (l4 (c.1,())) λd=>ag (ao d.1
 (ag (kZ (c.2.1,([((0:Int),([48,48,48,48,48,49]:aw),(0:Int),([]:aw),()),((0:Int),([48,48,48,48,48,50]:aw),(0:Int),([]:aw),()),((0:Int),([48,48,48,48,48,51]:aw),(0:Int),([48,48,48,48,48,52]:aw),()),((7:Int),([]:aw),(0:Int),([]:aw),()),((0:Int),([48,48,48,48,48,50]:aw),(0:Int),([]:aw),()),((0:Int),([48,48,48,48,48,50]:aw),(0:Int),([118]:aw),()),((0:Int),([]:aw),(0:Int),([48,48,48,48,48,49,32,98,97,115,101,10,48,48,48,48,48,52,10]:aw),()),((1:Int),([]:aw),(0:Int),([]:aw),())]:List mA),())) λa=>ab a.1)
 (ab false)) λa=>ag (ao a
 (ag (iP (((7:Int),(0:Int),([]:aw),([]:aw),([]:List Sb),([]:aw),([]:aw),(0:Int),()),())) λb=>ag (tH (b.1,([(2:Int),3]:List (Int)),())) λe=>ab e.1)
 (ab false)) λb=>ab (b,()))
def uA(x:oJ×al):Option (Bool×al) :=
 ag (ao (ao (ao (ao (cj (len x.1.2.2.1) 100)
 (cj (len x.1.2.2.2.1) 100)
 false)
 (cj (len x.1.2.2.2.2.2.1) 8704)
 false)
 (cj (len x.1.2.2.2.2.2.2.1) 100)
 false)
 (ag (pc (x.1.2.2.2.2.1,())) λa=>ab a.1)
 (ab false)) (λa=>ab (a,()))
def mW(x:oJ×al):Option (Bool×al) :=
 ag (dd (([(2:Int),5,6,12]:List (Int)),x.1.1,())) (λa=>ab (a.1,()))
def zN(b:(List NX)×Int×al)(a:(al×Int×al)×(List Sb)×al):Option (aaJ⊕aaJ) :=
 dn (ao (aZ a.1.2.1<|len b.1)
 (ag (idx b.1 a.1.2.1) λc=>ao (fits<|plus (len a.2.1)<|len ([c.1]:List Sb))
 (ab<|Sum.inl (((),aH i64 a.1.2.1 1,()),app a.2.1 ([c.1]:List Sb),()))
 ah)
 (ab<|Sum.inr (0,((),a.1.2.1,()),a.2.1,())))
def uB(x:dQ×oJ×al):Option ((List Sb)×al) :=
 ag (ao (ao (ao (aS x.2.1.1 1)
 (nt<|bG x.2.1.2.2.2.1 ([]:aw))
 false)
 (nt<|bG x.2.1.2.2.2.2.2.1 ([]:aw))
 false)
 (ab (0,(([]:List Sb),x.2.1.2.2.2.1,()),()))
 (ao (ao (nt<|aS x.2.1.1 3)
 (nt<|aS x.2.1.1 4)
 false)
 (ab (1,(([]:List Sb),x.2.1.2.2.1,()),()))
 (ab (0,(([]:List Sb),x.2.1.2.2.1,()),())))) (λa=>ao (da a.1 0)
 (ag (dG (x.1,a.2.1.2.1,())) λb=>ao (nt<|aS b.2.1 0)
 (ab (([]:List Sb),()))
 (ao (aS x.2.1.1 3)
 (ab (([b.1]:List Sb),()))
 (ag (kz (x.1.2.2.1,b.1,())) λc=>ag (Loop (zN c) (((),(0:Int),()),([]:List Sb),())) λd=>ab (d.2.1,()))))
 (ab (a.2.1.1,())))
def yw(c:(List<|Int)×al)(a:(Int×al)×(List<|Bool)×al):Option (((Int×al)×(List<|Bool)×al)⊕((Int×al)×(List<|Bool)×al)) :=
 dn (ao (aZ a.1.1<|len c.1)
 (ag (idx c.1 a.1.1) λb=>ao (within b 4)
 (ag (idx a.2.1 b) λd=>ag (idx a.2.1 b) λe=>ag (idx a.2.1 b) λf=>ab (Sum.inl ((aH i64 a.1.1 1,()),lS a.2.1 b true,())))
 ah)
 (ab<|Sum.inr (0,(a.1.1,()),a.2.1,())))
def lP(x:oJ×al):Option ((List<|Bool)×al) :=
 ag (iP (x.1,())) (λa=>ag (Loop (yw a) (((0:Int),()),([false,false,false,false]:List (Bool)),())) λb=>ab (b.2.1,()))
def mX(x:dQ×oJ×al)(e:(List Sb)×al)(a:(Int×al)×Tq×(List Sb)×al):Option (Ts⊕Ts) :=
 dn (ao (aZ a.1.1<|len x.1.2.2.1)
 (ag (idx x.1.2.2.1 a.1.1) λd=>ag (ao (aZ a.1.1<|len x.1.2.2.2.1)
 (ag (bB (e.1,d.1,())) λc=>ab c.1)
 (ab false)) λc=>ag (ao c
 (ag (idx x.1.2.2.2.1 a.1.1) λb=>ao (within a.1.1<|len a.2.2.1)
 (ag (idx a.2.2.1 a.1.1) λf=>ag (idx a.2.2.1 a.1.1) λg=>ag (idx a.2.2.1 a.1.1) λh=>ab ((),(a.2.1.1,a.2.1.2.1,a.2.1.2.2.1,(),a.2.1.2.2.2.2.1,a.2.1.2.2.2.2.2),lS a.2.2.1 a.1.1 b,()))
 ah)
 (ab ((),(a.2.1.1,a.2.1.2.1,a.2.1.2.2.1,(),a.2.1.2.2.2.2.1,a.2.1.2.2.2.2.2),a.2.2.1,()))) λb=>ab (Sum.inl ((aH i64 a.1.1 1,()),(b.2.1.1,b.2.1.2.1,b.2.1.2.2.1,(),b.2.1.2.2.2.2.1,b.2.1.2.2.2.2.2),b.2.2.1,())))
 (ab<|Sum.inr (0,(a.1.1,()),(a.2.1.1,a.2.1.2.1,a.2.1.2.2.1,(),a.2.1.2.2.2.2.1,a.2.1.2.2.2.2.2),a.2.2.1,())))
def wA(x:dQ×oJ×al):Option (dQ×al) :=
 ag (lP (x.2.1,())) (λe=>ag (uB (x.1,x.2.1,())) λg=>ao (within 1 4)
 (ag (idx e.1 (1:Int)) λh=>ag (ao h
 (ag (dC (x.1.1,())) λd=>ab ((),(d.1,([]:List Tr),([]:List NX),([]:List Sb),([]:List (Sb×Int×al)),()),()))
 (ab ((),(([]:List mz),([]:List Tr),([]:List NX),([]:List Sb),([]:List (Sb×Int×al)),()),()))) λd=>ao (within 2 4)
 (ag (idx e.1 (2:Int)) λi=>ag (ao i
 (ag (b3 (x.1.2.1,())) λb=>ab ((),(d.2.1.1,b.1,d.2.1.2.2),()))
 (ab ((),d.2.1,()))) λb=>ag (mW (x.2.1,())) λj=>ag (ao j.1
 (ag (b5 (x.1.2.2.2.2.1,())) λc=>ab ((),(b.2.1.1,b.2.1.2.1,b.2.1.2.2.1,b.2.1.2.2.2.1,c.1,b.2.1.2.2.2.2.2),()))
 (ab ((),b.2.1,()))) λc=>ao (within 3 4)
 (ag (idx e.1 (3:Int)) λk=>ao k
 (ag (b4 (x.1.2.2.1,())) λf=>ao (inside 0 (len x.1.2.2.1)<|len x.1.2.2.1)
 (ao (fits<|len x.1.2.2.1)
 (ag (Loop (mX x g) (((0:Int),()),(c.2.1.1,c.2.1.2.1,f.1,(),c.2.1.2.2.2.2.1,c.2.1.2.2.2.2.2),kn (len x.1.2.2.1) ([]:aw),())) λa=>ab ((a.2.1.1,a.2.1.2.1,a.2.1.2.2.1,a.2.2.1,a.2.1.2.2.2.2.1,a.2.1.2.2.2.2.2),()))
 ah)
 ah)
 (ab (c.2.1,())))
 ah)
 ah)
 ah)
def mY(x:dQ×oJ×dQ×al)(a:(Int×al)×Tq×(List Sb)×al):Option (Ts⊕Ts) :=
 dn (ao (aZ a.1.1<|len x.2.2.1.2.2.1)
 (ag (idx x.2.2.1.2.2.1 a.1.1) λd=>ag (iO (x.1,d.1,())) λc=>ag (ao c.2.2.1
 (ao (within a.1.1<|len a.2.2.1)
 (ag (idx a.2.2.1 a.1.1) λb=>ag (idx a.2.2.1 a.1.1) λe=>ag (idx a.2.2.1 a.1.1) λf=>ab ((),(a.2.1.1,a.2.1.2.1,a.2.1.2.2.1,(),a.2.1.2.2.2.2.1,a.2.1.2.2.2.2.2),lS a.2.2.1 a.1.1 c.2.1,()))
 ah)
 (ab ((),(a.2.1.1,a.2.1.2.1,a.2.1.2.2.1,(),a.2.1.2.2.2.2.1,a.2.1.2.2.2.2.2),a.2.2.1,()))) λb=>ab (Sum.inl ((aH i64 a.1.1 1,()),(b.2.1.1,b.2.1.2.1,b.2.1.2.2.1,(),b.2.1.2.2.2.2.1,b.2.1.2.2.2.2.2),b.2.2.1,())))
 (ab<|Sum.inr (0,(a.1.1,()),(a.2.1.1,a.2.1.2.1,a.2.1.2.2.1,(),a.2.1.2.2.2.2.1,a.2.1.2.2.2.2.2),a.2.2.1,())))
def wB(x:dQ×oJ×dQ×al):Option (dQ×al) :=
 ag (lP (x.2.1,())) (λe=>ao (within 1 4)
 (ag (idx e.1 (1:Int)) λf=>ag (ao f
 (ag (dC (x.2.2.1.1,())) λd=>ab ((),(d.1,x.1.2),()))
 (ab ((),x.1,()))) λd=>ao (within 2 4)
 (ag (idx e.1 (2:Int)) λg=>ag (ao g
 (ag (b3 (x.2.2.1.2.1,())) λb=>ab ((),(d.2.1.1,b.1,d.2.1.2.2),()))
 (ab ((),d.2.1,()))) λb=>ag (mW (x.2.1,())) λh=>ag (ao h.1
 (ag (b5 (x.2.2.1.2.2.2.2.1,())) λc=>ab ((),(b.2.1.1,b.2.1.2.1,b.2.1.2.2.1,b.2.1.2.2.2.1,c.1,b.2.1.2.2.2.2.2),()))
 (ab ((),b.2.1,()))) λc=>ao (within 3 4)
 (ag (idx e.1 (3:Int)) λi=>ao i
 (ag (b4 (x.2.2.1.2.2.1,())) λj=>ao (inside 0 (len x.2.2.1.2.2.1)<|len x.2.2.1.2.2.1)
 (ao (fits<|len x.2.2.1.2.2.1)
 (ag (Loop (mY x) (((0:Int),()),(c.2.1.1,c.2.1.2.1,j.1,(),c.2.1.2.2.2.2.1,c.2.1.2.2.2.2.2),over (kn (len x.2.2.1.2.2.1) ([]:aw)) (0:Int)<|@jd Sb x.2.2.1.2.2.2.1<|len<|kn (len x.2.2.1.2.2.1) ([]:aw),())) λa=>ab ((a.2.1.1,a.2.1.2.1,a.2.1.2.2.1,a.2.2.1,a.2.1.2.2.2.2.1,a.2.1.2.2.2.2.2),()))
 ah)
 ah)
 (ab (c.2.1,())))
 ah)
 ah)
 ah)
def jw(x:dQ×oJ×al):Option (Bool×al) :=
 ag (ym (x.1,())) (λe=>ag (ao (nt<|nt e.1)
 (ag (uA (x.2.1,())) λc=>ab (nt c.1))
 (ab true)) λc=>ag (ao (nt c)
 (ag (l4 (x.1,())) λd=>ab (nt d.1))
 (ab true)) λd=>ao d
 (ag (nw ()) λa=>ab (a.1,()))
 (ag (dR (x.1,x.2.1,())) λa=>ag (wA (x.1,x.2.1,())) λf=>ag (dR (f.1,x.2.1,())) λb=>ao (an (aS a.2.1.1 b.2.1.1)<|an (bG a.2.1.2.1 b.2.1.2.1)<|an (aS a.2.1.2.2.1 b.2.1.2.2.1)<|an (bG a.2.1.2.2.2.1 b.2.1.2.2.2.1) true)
 (ag (wB (x.1,x.2.1,b.1,())) λg=>ag (wu (g.1,a.1,())) λh=>ao h.1
 (ag (nw ()) λi=>ab (i.1,()))
 (ab (false,())))
 (ab (false,()))))
end Go.Ge
namespace Go.Ge
variable [Lp]
def AP(l:List Tx)(h:l.length<=4294967296):e8 (l,l,())=ab (true,()):=by rw[Kl l l h,dE rfl]
def NZ(l:List Item)(h:tw l):gW (l,l,())=ab (true,()):=Ni l (by have:=h.1;omega)
def xJ(a:Tx):bG a a=true:=dE rfl
def Dw{b:Type}{f:(Bool×Int×al)×al->Option (((Bool×Int×al)×al)⊕(Nat×(Bool×Int×al)×al))}(l:List b)(e:l.length<=1000000)
  (c:∀(i:Nat) (x:b),l[i]?=ab x->x∈l->i<l.length->f ((false,(i:Int),()),())=ab (.inl ((false,aH .i64 (i:Int) 1,()),()))) (d:f ((false,(l.length:Int),()),())=ab (.inr (0,(false,(l.length:Int),()),()))) :
  Loop f ((false,(0:Int),()),())=ab (0,(false,(l.length:Int),()),()) :=
 dh l.length (λj:Nat=>((false,(j:Int),()),())) (λj a=>by
  have hx:l[j]?=ab l[j]:=ia a;rw[c j l[j] hx (adL a) a,aL ai]) d
def Y7(l:List ep)(b:l.length<=1000000)(h:∀x∈l,nZ x.2.1/\tw x.2.2.2.2.2.1):nQ (l,l,())=ab (true,()):=by
 unfold nQ;dsimp only;rw[oe,aF,af,Dw (f:=kf (l,l,())) l b (λi x c a d=>by
  unfold kf;dsimp only;rw[aq d,ae,au c,aa,aa];simp only[xJ,ae,af,aF,az,aa,AP _ (h x a).1.small,NZ _ (h x a).2]) (by unfold kf;dsimp only;rw[ay,af];rfl),aa]
 rfl
def Wq(l:List bI)(b:l.length<=1000000)(h:∀x∈l,nZ x.2.1/\tw x.2.2.2.2.1):mr (l,l,())=ab (true,()):=by
 unfold mr;dsimp only;rw[oe,aF,af,Dw (f:=jE (l,l,())) l b (λi x c a d=>by
  unfold jE;dsimp only;rw[aq d,ae,au c,aa,aa];simp only[xJ,ae,af,aF,az,aa,AP _ (h x a).1.small,NZ _ (h x a).2]) (by unfold jE;dsimp only;rw[ay,af];rfl),aa]
 rfl
def Wr(l:List aD)(a:l.length<=1000000)(h:∀x∈l,x.2.2.1.length<=4294967296):mu (l,l,())=ab (true,()):=by
 unfold mu;dsimp only;rw[oe,aF,af,Dw (f:=jF (l,l,())) l a (λi x b c d=>by
  unfold jF;dsimp only;rw[aq d,ae,au b,aa,aa];have eb:eqB x.2.2.2.2.2.2.1 x.2.2.2.2.2.2.1=true:=by unfold eqB;simp
  simp only[xJ,oe,eb,ae,af,aF,az,aa,AP _ (h x c)]) (by unfold jF;dsimp only;rw[ay,af];rfl),aa]
 rfl
def Ws(l:List fT)(a:l.length<=1000000):mv (l,l,())=ab (true,()):=by
 unfold mv;dsimp only;rw[oe,aF,af,Dw (f:=jG (l,l,())) l a (λi x b d c=>by
  unfold jG;dsimp only;rw[aq c,ae,au b,aa,aa];simp only[xJ,oe,ae,af,aF,az];rfl) (by unfold jG;dsimp only;rw[ay,af];rfl),aa]
 rfl
def PI{b:Tx}{f:List Tx}(h:(wO b f).2.1=0):(wO b f).1∈f:=by
 unfold wO at h⊢;split at h
 .cases h
 .rename_i c;rw[aQ c]
  match f,h with
  | [a],_=>simp
def zO{l:List Nm}{a:Tx}(h:(aX l a).2.1=0):∃x∈l,x.1=(aX l a).1:=by
 unfold aX at h⊢;by_cases c:∃x∈l,x.1=a
 .rw[aW c];exact c
 .rw[aQ c] at h⊢;cases d:l.find? (λx=>decide (a∈x.2.1)) with
  | some x=>exact⟨x,Xf d,rfl⟩
  | none =>
    rw[d] at h;have:=PI h;unfold S3 at this⊢;rw[Lv] at this;obtain⟨x,e,b⟩:=this;refine⟨x,e,?_⟩;unfold S2 at b;split at b
    .rw[yE] at b;exact b.symm
    .cases b
open Classical in
def dlI(s:aA)(a:Tx):aA×tF×al :=
 if(aX (xG s) a).2.1≠0 then(s,iZ (aX (xG s) a).2.1,()) else
 if ∃x∈s.1,x.2.2.1=(aX (xG s) a).1 then(s,iZ 7,()) else
 ((s.1,(vg (·.1) s.2.1 (aX (xG s) a).1,s.2.2)),xF (aX (xG s) a).1,())
def Lj{b:Type}(a:b->Tx)(l:List b)(p:Tx)(d:vu a l)(i:Nat)(x:b)(c:l[i]?=ab x)(e:a x=p)(g:l.length<=1000000):HS l (i:Int) (aH .i64 (i:Int) 1)=ab (vg a l p):=by
 have f:=aG c;unfold HS;rw[aL ai,aU ai ai ft,z6,pS,pS,ah0 a d c,e]
def GZ(s:aA)(a:Tx)(h:AN s)(m:vu (·.1) s.2.1):qB (s,a,())=ab (dlI s a):=by
 have n:=h.il;have o:=h.bl;unfold qB dlI;dsimp only;rw[Br s a h,aa];by_cases c1:(aX (xG s) a).2.1=0
 rotate_left
 .rw[aW c1,ax c1];rfl
 rw[aQ<|λq=>q c1,aE c1,aF,af];generalize (aX (xG s) a).1=id;rcases iQ (f:=mh (s,a,())) s.1 (λi=>(((0:Int),i,()),id,())) (λ_ y=>decide (y.2.2.1=id)) (λi _=>(1,((i:Int),(i:Int),()),id,())) (0,((0:Int),len s.1,()),id,()) ai (λi y b c e=>by
  unfold mh;dsimp only;rw[aq c,ae,au b,aa,cZ,eA,e];by_cases q:y.2.2.1=id<;>simp[q]) (by unfold mh;dsimp only;rw[ay,af];rfl) with ⟨i,y,b,g,_,d⟩|⟨j,d⟩
 .rw[d,aa,aW ⟨y,eT b,iy g⟩];dsimp only;rw[show da 1 0=false from rfl,af,bO ai,ae];rfl
 .rw[d,aa,aQ (by
   rintro⟨y,b,k⟩;obtain⟨i,c⟩:=bz.1 b;have:=j i y c;simp[k] at this)]
  dsimp only;rw[bW,ae,show cj (0:Int) (-1)=false from rfl,af,cO ai,ae];rcases iQ (f:=mi (s,a,())) s.2.1 (λi=>(((0:Int),i,()),(),id,())) (λ_ y=>decide (y.1=id)) (λi _=>(1,((i:Int),(i:Int),()),(),id,())) (0,((0:Int),len s.2.1,()),(),id,()) ai (λi y b c e=>by
   unfold mi ef;dsimp only;rw[aq c,ae,au b,aa,aa,cZ,eA,e];by_cases q:y.1=id<;>simp[q]) (by unfold mi;dsimp only;rw[ay,af];rfl) with ⟨i,y,b,g,_,d⟩|⟨j,d⟩
  .rw[d,aa];dsimp only;rw[show da 1 0=false from rfl,af,bO ai,ae];unfold bk;dsimp only;rw[Lj (λx:bI=>x.1) s.2.1 id m i y b (iy g) ai,aa,aa];rfl
  .rw[d,aa];dsimp only;rw[bW,ae,af,aa,Wp (λx:bI=>x.1) (l:=s.2.1) (p:=id) λx r k=>by
    obtain⟨i,c⟩:=bz.1 r;have:=j i x c;simp[k] at this]
   rfl
def NU.upI{s:aA}(h:NU s):vu (·.1) s.2.1:=by
 have:=h.i.ids;unfold Th at this;simpa [vu] using this
def NU.Y8{s:aA}(h:NU s):vu (·.1) s.2.2.1:=by
 have:=h.l.ids;unfold Th at this;simpa [vu] using this
def NU.Y9{s:aA}(h:NU s):vu (·.1) s.1:=by
 have:=h.b.ids;unfold Th at this;simpa [vu] using this
def NU.ah1{s:aA}(h:NU s):s.2.1.length<=32:=h.i.few
def Lk{s:aA}{y:Nm}(h:y∈xG s):∃x∈s.2.1,y=(x.1,x.2.1,()):=by
 unfold xG at h;rw[Lv] at h;obtain⟨x,b,a⟩:=h;unfold ofI at a;rw[yE] at a;exact⟨x,b,a⟩
def Tt{s:aA}{y:Nm}(h:y∈eS s):∃x∈s.2.2.1,y=(x.1,x.2.2.1,()):=by
 unfold eS at h;rw[Lv] at h;obtain⟨x,b,a⟩:=h;unfold ofL at a;split at a
 .rw[yE] at a;exact⟨x,b,a⟩
 .cases a
def N0:¬Ig []:=λh=>by have:=h.2;cases this
def afR{l:List It}{a x:It}:x∈Px l a↔x=a\/x∈l:=by
 unfold Px;have e:=BP (p:=λy:It=>fq y.1 a.1) (l:=l);rw[Ht,Ht,yE];constructor
 .rintro((hx|hx)|hx)
  .exact .inr (by rw[<-e];exact DF _ hx)
  .exact .inl hx
  .exact .inr (by rw[<-e];exact JV _ hx)
 .rintro(hx|hx)
  .exact .inl (.inr hx)
  .rw[<-e,Ht] at hx;rcases hx with hx|hx
   .exact .inl (.inl hx)
   .exact .inr hx
def afS(l:List It)(a:It):(Px l a).length=l.length+1:=by
 unfold Px;have:=congrArg List.length (BP (p:=λy:It=>fq y.1 a.1) (l:=l));rw[hY] at this;rw[hY,hY,DE];omega
structure BkS (s:aA):Prop where
 il:∀x∈s.2.1,x.1.length<=1048576/\x.2.2.1.length<=1048576
 bl:∀x∈s.1,x.1.length<=1048576/\x.2.2.1.length<=1048576/\x.2.2.2.1.length<=1048576
 dg:∀x∈s.2.2.1,x.2.2.2.1.length<=1048576
def Nl.bd{s:aA}(h:Nl s)(k:BkS s):BdS s where
 ll:=h.base.ll
 il:=h.base.il
 bl:=h.base.bl
 xl:=λx a=>⟨by have:=h.ids x a;omega,by have:=h.ids x a;omega,h.base.ln x a,k.dg x a⟩
 xi:=λx a=>⟨(k.il x a).1,h.base.pV x a,(k.il x a).2,(h.base.im x a).2⟩
 xb:=λx a=>⟨(k.bl x a).1,h.base.bn x a,(k.bl x a).2.1,(k.bl x a).2.2,(h.base.bm x a).2⟩
 dl:=h.am6
 ml:=by have:=h.mts;omega
end Go.Ge
namespace Go.Ge
abbrev Tu:Ty:=.pair .str (.pair .str<|.pair .str .unit)
abbrev Rn:Ty:=.pair .str (.pair (.slice .str)<|.pair .str<|.pair .str<|.pair .str<|.pair (.slice Tu) .unit)
abbrev Dx:Ty:=.pair .str (.pair (.slice .str)<|.pair .str<|.pair .str<|.pair (.slice Tu) .unit)
abbrev Dy:Ty:=.pair .str (.pair .str<|.pair (.slice .str)<|.pair .str<|.pair (.int .i64)<|.pair (.int .i64)<|.pair .bool .unit)
abbrev aaO:Ty:=.pair .str (.pair (.int .i64) .unit)
abbrev ah5:Ty:=.pair (.slice Rn) (.pair (.slice Dx)<|.pair (.slice Dy)<|.pair (.slice .str)<|.pair (.slice aaO) .unit)
def N1{b:Type}{f:b->Nat}{l:List b}{x:b}(h:x∈l):f x<=vl f l:=by
 induction l with
 | nil=>cases h
 | cons a r c =>
   unfold vl;rcases ld.1 h with rfl|h
   .omega
   .have:=c h;omega
def ajM{s:aA}(h:ah5.bulk s<=1048576):BkS s:=by
 obtain⟨b,c,d,i,j,u⟩:=s;have k:(vl Rn.bulk b+1)+((vl Dx.bulk c+1)+((vl Dy.bulk d+1)+((vl Ty.str.bulk i+1)+((vl aaO.bulk j+1)+0))))<=1048576:=h;refine⟨λx a=>?_,λx a=>?_,λx a=>?_⟩
 .have e:Dx.bulk x<=vl Dx.bulk c:=N1 (f:=Dx.bulk) a;have g:Dx.bulk x=(x.1.length+1)+((vl Ty.str.bulk x.2.1+1)+((x.2.2.1.length+1)+((x.2.2.2.1.length+1)+((vl Tu.bulk x.2.2.2.2.1+1)+0)))):=rfl;omega
 .have e:Rn.bulk x<=vl Rn.bulk b:=N1 (f:=Rn.bulk) a;have g:Rn.bulk x=(x.1.length+1)+((vl Ty.str.bulk x.2.1+1)+((x.2.2.1.length+1)+((x.2.2.2.1.length+1)+((x.2.2.2.2.1.length+1)+((vl Tu.bulk x.2.2.2.2.2.1+1)+0))))):=rfl;omega
 .have e:Dy.bulk x<=vl Dy.bulk d:=N1 (f:=Dy.bulk) a;have g:Dy.bulk x=(x.1.length+1)+((x.2.1.length+1)+((vl Ty.str.bulk x.2.2.1+1)+((x.2.2.2.1.length+1)+(1+(1+(1+0)))))):=rfl;omega
variable [Lp]
def vu.idx{α:Type}{a:α->Tx}{l:List α}(h:vu a l){i j:Nat}{x y:α}(f:l[i]?=ab x)(g:l[j]?=ab y)(e:a x=a y):i=j:=by
 unfold vu at h;rw[Ue] at h;obtain⟨b,rfl⟩:=ib.1 f;obtain⟨c,rfl⟩:=ib.1 g;have d:=DC.1 h;rcases Qm i j with q|q|q
 .have:=d i j b c q;rw[e,kt] at this;cases this
 .exact q
 .have:=d j i c b q;rw[e,kt] at this;cases this
def Dz{a:List aD}(d:vu (·.1) a){i:Nat}{x:aD}(b:a[i]?=ab x):Ef a x.1=ab i:=by
 obtain⟨j,c⟩:=Lf.2 ⟨x,eT b,rfl⟩;obtain⟨y,e,f⟩:=yZ c;rw[c,d.idx e b f]
def afT{a:List aD}{id:Tx}(h:∀x∈a,x.1≠id):Ef a id=none:=GV λi x b=>cL (h x<|eT b)
def CI{ls:List aD}{id:Tx}(h:∀x∈ls,x.1≠id)(n:Nat)(a:List aD):BK ls n id a=([],3):=by
 unfold BK;rw[afT h]
def N2{a:List aD}(c:vu (·.1) a){x:aD}(d:x∈a)(b:List aD):BK a 0 x.1 b=([],5):=by
 obtain⟨i,e⟩:=bz.1 d;unfold BK;rw[Dz c e]
def qh{ls:List aD}(c:vu (·.1) ls){x:aD}(d:x∈ls)(n:Nat)(a:List aD):BK ls (n+1) x.1 a=if x.2.1=[] then(a++[x],0) else BK ls n x.2.1 (a++[x]):=by
 obtain⟨i,b⟩:=bz.1 d
 conv=>lhs;unfold BK
 rw[Dz c b];dsimp only;rw[b]
def ah6{ls c:List aD}(g:vu (·.1) ls)(d:vu (·.1) c){q:Tx}(h:∀x:aD,x.1≠q->(x∈c↔x∈ls))(i:∀x∈ls,x.2.1=[]\/x.2.1≠q) :
  ∀(n:Nat) (id:Tx) (acc:List aD),id≠q->BK c n id acc=BK ls n id acc:=by
 intro n;induction n with
 | zero =>
   intro id acc b;by_cases hx:∃x∈ls,x.1=id
   .obtain⟨x,hx,rfl⟩:=hx;rw[N2 g hx,N2 d ((h x b).2 hx)]
   .rw[CI<|λx a e=>hx ⟨x,a,e⟩,CI λx a e=>hx ⟨x,(h x<|by rw[e];exact b).1 a,e⟩]
 | succ n j =>
   intro id acc b;by_cases hx:∃x∈ls,x.1=id
   .obtain⟨x,hx,rfl⟩:=hx;rw[qh g hx,qh d ((h x b).2 hx)];by_cases f:x.2.1=[]
    .rw[aW f,aW f]
    .rw[aQ f,aQ f,j _ _ ((i x hx).resolve_left f)]
   .rw[CI<|λx a e=>hx ⟨x,a,e⟩,CI λx a e=>hx ⟨x,(h x<|by rw[e];exact b).1 a,e⟩]
def Ro{ls:List aD}(d:vu (·.1) ls):∀(n:Nat) (id:Tx) (acc:List aD),(BK ls n id acc).2=0 ->
  ∃c,(BK ls n id acc).1=acc++c/\∀(m:Nat) (a:List aD),c.length<=m->BK ls m id a=(a++c,0):=by
 intro n;induction n with
 | zero =>
   intro id acc h;by_cases hx:∃x∈ls,x.1=id
   .obtain⟨x,hx,rfl⟩:=hx;rw[N2 d hx] at h;cases h
   .rw[CI λx b e=>hx ⟨x,b,e⟩] at h;cases h
 | succ n i =>
   intro id acc h;by_cases hx:∃x∈ls,x.1=id
   .obtain⟨x,hx,rfl⟩:=hx;rw[qh d hx] at h⊢;by_cases f:x.2.1=[]
    .rw[aW f] at h⊢;refine⟨[x],rfl,λm a g=>?_⟩;cases m with
     | zero=>cases g
     | succ m=>rw[qh d hx,aW f]
    .rw[aQ f] at h⊢;obtain⟨c,j,k⟩:=i _ _ h;refine⟨x::c,by rw[j];simp,λm a g=>?_⟩;cases m with
     | zero=>cases g
     | succ m =>
       rw[qh d hx,aQ f,k m _ (by simpa using g)];simp
   .rw[CI λx b e=>hx ⟨x,b,e⟩] at h;cases h
def acT{a:List aD}(c:vu (·.1) a){x:aD}(d:x∈a)(h:(bj a x.1).2=0):x.2.1=[]\/∃y∈a,y.1=x.2.1:=by
 unfold bj at h;rw[qh c d] at h;by_cases b:x.2.1=[]
 .exact .inl b
 .rw[aQ b] at h;right;apply JS;intro q;rw[CI λy f e=>q ⟨y,f,e⟩] at h;cases h
def AtD(ls:List aD)(a:List Tx)(x:aD)(d:Tx):Prop:=∃i:Nat,ls[i]?=ab x/\a[i]?=ab d
def aaP{a:List aD}{b:List Tx}{x:aD}{d:Tx}:AtD a b x d↔(x,d)∈a.zip b:=by
 unfold AtD;rw[bz];constructor
 .rintro⟨i,c,e⟩;exact⟨i,by rw[adu];exact⟨c,e⟩⟩
 .rintro⟨i,h⟩;rw[adu] at h;exact⟨i,h.1,h.2⟩
def Tv{a c:List aD}{b f:List Tx}{x y:aD}{d e:Tx}(h:a.length=b.length):AtD (a++[x]++c) (b++[d]++f) y e↔(y=x/\e=d)\/AtD (a++c) (b++f) y e:=by
 rw[aaP,aaP,uH,uH,List.zip_append h,List.zip_append h];simp only[ZD,List.zip_cons_cons,Ht,ld,Prod.mk.injEq];constructor
 .rintro(q|q|q)
  .exact .inr (.inl q)
  .exact .inl q
  .exact .inr (.inr q)
 .rintro(q|q|q)
  .exact .inr (.inl q)
  .exact .inl q
  .exact .inr (.inr q)
def G0{ls:List aD}{a:List Tx}(e:a.length=ls.length){x:aD}(c:x∈ls):∃d,AtD ls a x d:=by
 obtain⟨i,b⟩:=bz.1 c;have:=aG b;exact⟨a[i],i,b,ia ai⟩
def AtD.mem{ls:List aD}{a:List Tx}{x:aD}{d:Tx}(h:AtD ls a x d):x∈ls:=by
 obtain⟨i,b,_⟩:=h;exact eT b
def G1{a:List aD}{b:List Tx}(c:vu (·.1) a){x:aD}{d:Tx}(h:AtD a b x d):sS a b x.1=d:=by
 obtain⟨i,e,f⟩:=h;unfold sS;rw[Dz c e];dsimp only;rw[f];rfl
def acV{ls a:List aD}{i b:List Tx}(o:vu (·.1) ls)(f:vu (·.1) a)(p:i.length=ls.length)(j:b.length=a.length){q:Tx}
  (h:∀(x:aD) (d:Tx),x.1≠q->(AtD a b x d↔AtD ls i x d)) (s:∀x∈ls,x.2.1=[]\/x.2.1≠q) (t:(∀x∈ls,x.1≠q)\/(∀x∈a,x.1≠q)) {id:Tx} (l:id≠q) :
  bj a id=bj ls id/\eg a b id=eg ls i id:=by
 have u:∀x:aD,x.1≠q->(x∈a↔x∈ls):=λx c=>by
  constructor
  .intro k;obtain⟨d,e⟩:=G0 j k;exact((h x d c).1 e).mem
  .intro k;obtain⟨d,e⟩:=G0 p k;exact((h x d c).2 e).mem
 have m:bj a id=bj ls id:=ah6 o f u s 16 id [] l;refine⟨m,?_⟩;unfold eg;rw[m];have:((bj ls id).1.reverse.map λx=>sS a b x.1)=((bj ls id).1.reverse.map λx=>sS ls i x.1):=by
  apply Lw;intro x c;rw[Uf] at c;have r:=(pF (ls:=ls) (id:=id)).1 x c;have v:=(pF (ls:=a) (id:=id)).1 x (by rw[m];exact c);have n:x.1≠q:=t.elim (λg=>g x r) (λg=>g x v);obtain⟨d,e⟩:=G0 p r;rw[G1 o e,G1 f ((h x d n).2 e)]
 rw[this]
end Go.Ge
