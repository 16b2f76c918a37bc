import Derived.Test.YtcebnmppipejfaaGreatDoorPlI
set_option linter.unusedSectionVars false
set_option linter.unusedVariables false
set_option linter.unusedSimpArgs false
set_option linter.defProp false
open Option renaming some->aa,none->af
open Sum renaming inl->aG,inr->aH
namespace Go.Ge
variable [Lp]
def ahb s id:zc s id=(BZ (·.1) s.2.1 im0 id).2.2.1:=by unfold zc BZ;cases s.2.1.find? _<;>rfl
def akm s id:aaK s id=(BZ (·.1) s.1 UB id).2.2.2.1:=by unfold aaK BZ;cases s.1.find? _<;>rfl
def LP{s}(h:zl s)(j:kA (·.1) s.1)(l:kA (·.1) s.2.1)(a:Tx){given}(f:ow given)(g:Tx) d:tW (s,a,given,g,d,())=aa (crB s a given g d):=by
 have o:=h.il;have p:=h.bl;have t:=O6 h;unfold tW crB;rw[oX given f.small (λx e=>by have:=f.2 x e;omega),ab];dsimp only;rw[show ba 64 _=decide (64<g.length) by unfold len;apply fk.2;omega];by_cases c1:dA given≠0\/64<g.length
 .rw[aN c1];by_cases q:dA given=0;{rw[ay q,cT (c1.resolve_left λk=>k q)];rfl};rw[ax q];rfl
 rw[aK c1,ay (nF λk=>c1 (.inl k)),cj λk=>c1 (.inr k)];by_cases c2:a≠[]/\(aS (wF s) a).2.1≠0
 .rw[aN c2,bg c2.1,zf s a h,ab,ax c2.2];rfl
 rw[aK c2];have m:(ao (nt<|bA a []) (ae (tT (s,a,())) λi=>ao (nt<|aR i.2.1 0) (ae (gw (i.2.1,())) λn=>aa (1,(([]),([]),()),n.1,s,()))
   (ae (oW (s,i.1,())) λn=>aa (0,(i.1,n.1.2.2.1,()),zA,zS,())))
   (aa (0,(([]),([]),()),zA,zS,())))=aa (0,(zt s a,(if a=[] then [] else zc s (zt s a)),()),zA,zS,()):=by
  unfold zt;by_cases q:a=[]
  .rw[cc q,aM,ag,aN q,aN q]
  .obtain⟨b,u⟩:=LI s (aS _ a).1 ai l;rw[bg q,zf s a h,ab,ay (nF λk=>c2 ⟨q,k⟩),aK q,aK q,u,ahb];rfl
 refine ob m ?_;generalize (if a=[] then [] else zc s _)=top;rw[cu,aj,DG s h,ab,xV _ [] given (Gb h) f.small (λx e=>by have:=f.2 x e;omega),ab];by_cases c3:ju (DA s) [] given=0
 rotate_left
 .rw[aN c3,ax c3];rfl
 rw[aK<|λq=>q c3,ay c3,aM,ag,ab];dsimp only;rw[show gT IntKind.i64 d 16777215=Xs d from rfl,show gT IntKind.i64 _ 16777215=Fe d from rfl,CM _ _ ai,ab];by_cases c4:(cO (DA s)<|Xs d).2.1=0
 rotate_left
 .rw[aN c4,ax c4];rfl
 obtain⟨_,_,v⟩:=yU c4;have c:=Vz s top [] (Fe d);rw[aK<|λq=>q c4,ay c4,aM,ag,B1 h top aaR [] _ aI,O7,ab];generalize crG s top [] _=r at c;by_cases c5:r.2.1.1=0
 rotate_left
 .rw[aN c5,ax c5];rfl
 rw[aK<|λq=>q c5,ay c5,aM,ag,LL r.1 _ (by rw[c];omega) (by rw[c];exact j),ab,c,E7 _ λx e=>v _ (Gc e)]
def LQ{s}(h:W24 s)(d:kA (·.1) s.2.2.2.2.1)(a:Tx):tX (s,a,())=aa (dlW s a):=by
 have e:=h.hd.bl;have f:=h.hd.il;have g:=h.hd.ll;have i:=h.ml;unfold tX dlW;rw[R0 s a h.hd,ab];by_cases c1:(aS (DA s) a).2.1=0
 rotate_left
 .rw[aN c1,ax c1];rfl
 rw[aK<|λq=>q c1,ay c1];generalize (aS _ a).1=id;have j:=(mC (λz=>z.1) s.1 id).length_le;obtain⟨b,l⟩:=LJ s id ai h.DZ;rw[l,ab,aaT s id ai h.DZ,ab,<-akm,uf s _ ai d,ab];generalize aaK s id=c;by_cases q:0<qO s c
 {rw[aT q,aN (.inl q)];rfl};rw[aF ai,aE,aj,J8 _ c xv xv xv,ab,ab];cases m:wx _ c with|true =>rw[aN<|.inr rfl];rfl|false =>rw[aK<|by rintro(k|k);exact q k;cases k];exact ob (DE _ c xv xv) rfl
def DH{s}(h:zl s) k:vG (s,k,())=aa (wA s k,()):=ob (yN k _ h.aoh) rfl
def R1{k l}:k∈TP k l↔k∈l:=by
 unfold TP;by_cases q:k∈l
 {simp};simp
def akn{s}(h:W24 s) id:zq (BZ (λz=>z.1) s.1 UB id).2.2.2.2.2.1:=by
 rcases aki with q|q
 {exact h.bits _ q};rw[q];exact aaQ
def ako{s}(h:W24 s) id:zq (BZ (λz=>z.1) s.2.1 im0 id).2.2.2.2.1:=by
 rcases aki with q|q
 {exact h.hd.it _ q};rw[q];exact aaQ
def R4{s}(h:W24 s){c}(j:c.1=9\/c.1=10)(g:GB c):xS (s,c,())=aa (itS s c):=by
 have n:=h.hd.bl;have o:=h.hd.il;have k:kB c=TP c.2.1 [1,2]:=by unfold kB;rw[aK ai,aK ai,aK ai,aK ai,aN j]
 unfold xS itS;dsimp only;by_cases m:c.2.1∈kB c
 rotate_left
 .rw[k,R1] at m;simp at m;rw[aN<|by rw[k,R1];simp;exact m,ax m.2,ax m.1];rfl
 have l:=Ig j m;have e0:ao (nt<|aR c.2.1 2) (nt<|aR c.2.1 1) false=false:=by rcases l with q|q;{rw[ay q];cases nt _<;>rfl};rw[ay q];rfl
 rw[aK<|λq=>q m,e0,DH h.hd,ab,pc _ _ (Gj h.hd _) (by have:=Gi h.hd c.2.1;omega),ab];by_cases c1:(aS (wA s c.2.1) c.2.2.1).2.1=0
 rotate_left
 .rw[aN c1,ax c1];rfl
 rw[aK<|λq=>q c1,ay c1];have d:=B0 c1;generalize (aS _ c.2.2.1).1=id at d;obtain⟨t,p⟩:=LI s id ai h.E9;obtain⟨u,r⟩:=LJ s id ai h.DZ;rw[p,ab,r,ab];rcases l with f|v
 .rw[ay f,aN f];simp only[aj];have b:=akn h id;have e:(BZ (λz=>z.1) s.1 UB id).1=id:=by rcases d with ⟨_,x,i,rfl⟩|⟨q,_⟩|⟨q,_⟩;{rw[iy h.DZ i]};{omega};omega
  unfold itF;by_cases a:c.1=10;{rw[ay a,aj,aN a,EO _ _ (by have:=b.1;omega),ab];by_cases q:(H3 (BZ (λz=>z.1) s.1 UB id).2.2.2.2.2.1 c.2.2.2.2.2.2.1).2=0;{rw[ay q,aK λz=>z q];rfl};rw[ax q,aN q];rfl};rw[ax a,ag,aK a,EP _ _ _ (by have:=b.1;omega) (by have:=g.key;omega) (by have:=g.data;omega),ab];by_cases q:(jy (BZ (λz=>z.1) s.1 UB id).2.2.2.2.2.1 c.2.2.2.2.2.2.1 c.2.2.2.2.2.1).2=0;{rw[ay q,aK (λz=>z q),aM,ag,LL s _ ai h.DZ,e];rfl};rw[ax q,aN q];rfl
 have f:¬c.2.1=1:=ai;rw[ax f,aK f];simp only[ag];have b:=ako h id;have e:(BZ (λz=>z.1) s.2.1 im0 id).1=id:=by rcases d with ⟨q,_⟩|⟨_,x,i,rfl⟩|⟨q,_⟩;{omega};{rw[iy h.E9 i]};omega
 unfold itF;by_cases a:c.1=10;{rw[ay a,aN a,EO _ _ (by have:=b.1;omega),ab];by_cases q:(H3 (BZ (λz=>z.1) s.2.1 im0 id).2.2.2.2.1 c.2.2.2.2.2.2.1).2=0;{rw[ay q,aK λz=>z q];rfl};rw[ax q,aN q];rfl};rw[ax a,aK a,EP _ _ _ (by have:=b.1;omega) (by have:=g.key;omega) (by have:=g.data;omega),ab];by_cases q:(jy (BZ (λz=>z.1) s.2.1 im0 id).2.2.2.2.1 c.2.2.2.2.2.2.1 c.2.2.2.2.2.1).2=0;{rw[ay q,aK (λz=>z q),LK s _ ai h.E9,e];rfl};rw[ax q,aN q];rfl
def R5{s}(h:W24 s) id (g:List Tx) (hx:∃x∈s.2.2.1,x.1=id):hH (s,3,id,g,())=aa (rnS s 3 id g,()):=by
 have m:=h.hd.ll;obtain⟨j,l⟩:=OZ.2 hx;obtain⟨y,c,d⟩:=y8 l;have n:BZ (λz=>z.1) s.2.2.1 ly0 id=y:=by rw[<-d];exact iy h.Xn (kG c)
 have b:∀i x,s.2.2.1[i]?=aa x->bA x.1 id=decide (i=j):=λi x a=>by rw[ <-d];exact fk.2 (akj _ h.Xn c a)
 have hlen:(rnL s.2.2.1 id g).length=s.2.2.1.length:=amr _ _ _;have k:∀i x,s.2.2.1[i]?=aa x->(rnL s.2.2.1 id g)[i]?=aa (if i=j then(x.1,x.2.1,g,x.2.2.2) else x):=λi x a=>by unfold rnL;rw[l,n,Option.getD_some,ahL];by_cases q:i=j;{subst q;rw[c] at a;rw[aN rfl,aN (aA c),aN rfl,<-aU a,d]};rw[aK<|λz=>q z.symm,aK q,a]
 have key:=cp (f:=mw (s,3,id,g,())) s.2.2.1.length
  (λi=>(((),decide<|j<i,i,()),(rnL s.2.2.1 id g).take i,())) (λi a=>by
   (have hx:=gQ a;have o:(rnL s.2.2.1 id g).take (i+1)=(rnL s.2.2.1 id g).take i++[if i=j then(s.2.2.1[i].1,s.2.2.1[i].2.1,g,s.2.2.1[i].2.2.2) else s.2.2.1[i]]:=by rw[yn,k i _ hx];rfl);unfold mw;dsimp only;rw[aq a,au hx,ab,b i _ hx,aJ ai,o,(λz=>aP dW)];by_cases q:i=j;{subst q;rw[cT rfl,aN rfl,cj (Nat.lt_irrefl i),cT (Yf i)];rfl}
   .rw[cj q,aK q];have e:decide (j<i+1)=decide (j<i):=fk.2 ai;rw[e];rfl) (by
   unfold mw;rw[aw,Is ai];rfl)
 unfold hH rnS;dsimp only;exact ob key rfl
def Kc{s}(h:W24 s) k id (g:List Tx) (hx:(k=1/\∃x∈s.1,x.1=id)\/(k=2/\∃x∈s.2.1,x.1=id)\/(k=3/\∃x∈s.2.2.1,x.1=id)):hH (s,k,id,g,())=aa (rnS s k id g,()):=by
 have c:=h.hd.bl;have d:=h.hd.il;rcases hx with ⟨rfl,x,hx,rfl⟩|⟨rfl,x,hx,rfl⟩|⟨rfl,hx⟩
 .obtain⟨b,a⟩:=LJ s x.1 ai h.DZ;unfold hH rnS rnB;rw[iy h.DZ hx] at a⊢;rw[ a];exact ob (LL s _ ai h.DZ) rfl
 {obtain⟨b,a⟩:=LI s x.1 ai h.E9;unfold hH rnS rnI;rw[iy h.E9 hx] at a⊢;dsimp only;rw[ a];exact ob (LK s _ ai h.E9) rfl};exact R5 h id g hx
def ahc(a:Tx)(l:List Tx):Lib.join (a::l) [32]=a++l.flatMap λn=>32::n:=by rw[Lib.join_cons];rfl
def ahd l:akc l=l.flatMap λx=>x.1++(x.2.1.flatMap λn=>32::n)++[10]:=by
 unfold akc;have:(l.flatMap λx=>aB (Lib.join (x.1::x.2.1) [32]++[10]))=aB (l.flatMap λx=>x.1++(x.2.1.flatMap λn=>32::n)++[10]):=by unfold aB;rw[List.map_flatMap];simp only[ahc]
 rw[this,jM]
def VG{x:Nm}(h:x.1.length<=1000/\ow x.2.1):(x.1++(x.2.1.flatMap λn=>32::n)++[10]).length<=9010:=by
 have b:(x.2.1.flatMap λn=>32::n).length<=x.2.1.length*1000:=Gg _ 1000 x.2.1 λn a=>by have:=h.2.2 n a;simp;omega
 have:=h.2.1;simp only[gR,iG,qp];omega
def R6(l:List Nm)(u:l.length<=40)(o:∀x∈l,x.1.length<=1000/\ow x.2.1):CB (l,())=aa (akc l,()):=by
 rw[ahd];have key:=hU (f:=rN (l,())) l (λb i=>((b,i,()),())) _ _ ai (λi x e j d=>by
  have a:((l.take i).flatMap _).length<=(l.take i).length*9010:=Gg _ _ _ λc q=>VG (o c<|Bb q);rw[cY] at a;have g:=o x (kG e);have m:=VG g;simp only[gR,iG,qp] at m;have v:=g.2.1;generalize w:(l.take i).flatMap _=O at a;have inner:=hU (f:=rM (l,()) ((O,i,()),())) x.2.1 (λb k=>((O++x.1++b,k,()),())) _ _ ai (λk n h r s=>by
   (have t:=g.2.2 n (kG h);have p:=Gg (λn=>32::n) 1000 (x.2.1.take k) λn h=>by have:=g.2.2 n (Bb h);simp;omega);rw[cY] at p;unfold rM;generalize (x.2.1.take k).flatMap _=Q at p;rw[au e,ab,aq r,ab,au h,ab,s,aP dW,aP (by simp only[hJ,gR,iG,qp];omega),aj];simp only[hJ,rO];rfl) (by
   unfold rM;rw[au e,ab,aw];rfl)
  rw[zo] at inner;unfold rN;dsimp only;rw[aq j,au e,ab,aP ai,d,show app O x.1=O++x.1 from rfl,inner,ab,aP<|by simp only[gR,iG,qp];omega];simp only[hJ,rO];rfl) (by
  unfold rN;rw[aw];rfl)
 exact ob key rfl
def LR{s}(h:W24 s){c}(l:c.1=13\/c.1=14\/c.1=15)(n:GB c):tY (s,c,())=aa (rcS s c):=by
 have e:=n.SJ;have o:kB c=TP c.2.1 [1,2,3]:=by unfold kB;rw[aK ai,aK ai,aK ai,aK ai,aK ai,aN l]
 have i:c.2.1∈kB c↔c.2.1=1\/c.2.1=2\/c.2.1=3:=by rw[o,R1];simp
 unfold tY rcS;have e0:ao (nt<|ba c.2.1 1) (ba 3 c.2.1) true=decide (¬c.2.1∈kB c):=by by_cases q:c.2.1<1;{rw[aT q,aM,ag,cT (by rw[i];omega)]};rw[aF ai];exact fk.2 (by rw[i];omega)
 rw[e0];by_cases m:c.2.1∈kB c
 rotate_left
 .rw[cT m,aN m];rfl
 rw[cj<|λq=>q m,aK (λq=>q m),DH h.hd,ab];by_cases a:c.1=15
 .rw[aN a,ay a];exact ob (R6 _ (Gi h.hd _)<|aaO h _) rfl
 rw[aK a,ax a];have j:=Gj h.hd c.2.1;have r:=Gi h.hd c.2.1;have f:(ao (aR c.1 13) (ae (gq (c.2.2.2.2.1,())) λp=>aa (nt<|aR p.1 0))<|some false)=aa (decide<|c.1=13/\dA c.2.2.2.2.1≠0):=by by_cases q:c.1=13;{rw[ay q,oX _ e.small (λx g=>by have:=e.2 x g;omega),ab];by_cases k:dA c.2.2.2.2.1=0;{rw[ay k,cj λz=>z.2 k];rfl};rw[ax k,cT ⟨q,k⟩];rfl};rw[ax q,ag,cj λz=>q z.1]
 rw[f,ab];by_cases c1:c.1=13/\dA c.2.2.2.2.1≠0
 .rw[cT c1,aN c1];rfl
 rw[cj c1,aK c1,pc _ _ j ai,ab];unfold rcE;by_cases c2:(aS (wA s c.2.1) c.2.2.1).2.1=0
 rotate_left
 .rw[aK<|show ¬((aS (wA s c.2.1) c.2.2.1).2.1=0/\c.1=13) from λz=>c2 z.1,aN c2,ax c2];rfl
 rw[ay c2];by_cases b:c.1=14
 .rw[aK<|show ¬((aS _ c.2.2.1).2.1=0/\c.1=13) by omega,aK (λz=>z c2),aK ai,ay b];rfl
 have d:c.1=13:=ai;rw[aN<|show(aS _ c.2.2.1).2.1=0/\c.1=13 from⟨c2,d⟩,aN d,ax b,xV _ _ _ j e.small (λx g=>by have:=e.2 x g;omega),ab];by_cases c3:ju (wA s c.2.1) (aS (wA s c.2.1) c.2.2.1).1 c.2.2.2.2.1=0
 rotate_left
 .rw[aN c3,ax c3];rfl
 rw[aK<|λz=>z c3,ay c3];exact ob (Kc h _ _ _<|B0 c2) rfl
def ads{s}(h:W24 s)(g:kA (·.1) s.2.2.2.2.1){c}(e:GB c):CC (s,c,())=aa (TT s c):=by
 have hd:=e.data;unfold CC TT;dsimp only;by_cases i:c.1=1
 .rw[aN i,ay i];exact ob (B1 h.hd _ e.SJ _ _ ai) rfl
 rw[aK i,ax i];by_cases j:c.1=2
 .rw[aN j,ay j];exact ob (LM h g _) rfl
 rw[aK j,ax j];by_cases k:c.1=3
 .rw[aN k,ay k];exact ob (RZ h _) rfl
 rw[aK k,ax k];by_cases l:c.1=4
 .rw[aN l,ay l];exact ob (Ka h _) rfl
 rw[aK l,ax l];by_cases m:c.1=5
 .rw[aN m,ay m];exact ob (N4 h g _) rfl
 rw[aK m,ax m];by_cases n:c.1=6
 .rw[aN n,ay n];exact ob (Kb h g _) rfl
 rw[aK n,ax n];by_cases o:c.1=7
 .rw[aN o,ay o];exact ob (LN h.hd h.E9 _ e.SJ _ _) rfl
 rw[aK o,ax o];by_cases p:c.1=8
 .rw[aN p,ay p];exact ob (LO h.hd h.E9 _) rfl
 rw[aK p,ax p];by_cases b:c.1=11
 .rw[aN b,ay b];exact ob (LP h.hd h.DZ h.E9 _ e.SJ _ _) rfl
 rw[aK b,ax b];by_cases d:c.1=12
 .rw[aN d,ay d];exact ob (LQ h g _) rfl
 rw[aK d,ax d];have u:((ao (aR c.1 9) ((aR c.1 9,()),()) ((aR c.1 10,()),())).1).1=decide (c.1=9\/c.1=10):=by by_cases q:c.1=9;{rw[ay q,cT (.inl q)];rfl};rw[ax q];exact fk.2 ⟨.inr,λz=>z.resolve_left q⟩
 rw[u];by_cases f:c.1=9\/c.1=10
 .rw[aN f,cT f];exact ob (R4 h f e) rfl
 rw[aK f,cj f];have t:((ao (aR c.1 13) ((aR c.1 13,()),()) ((((ao (aR c.1 14) ((aR c.1 14,()),()) ((aR c.1 15,()),())).1).1,()),())).1).1=decide (c.1=13\/c.1=14\/c.1=15):=by by_cases q:c.1=13;{rw[ay q,cT (.inl q)];rfl};by_cases r:c.1=14;{rw[ax q,ay r,cT (.inr<|.inl r)];rfl};rw[ax q,ax r];exact fk.2 ⟨λz=>.inr (.inr z),λz=>(z.resolve_left q).resolve_left r⟩
 rw[t];by_cases a:c.1=13\/c.1=14\/c.1=15
 .rw[aN a,cT a];exact ob (LR h a e) rfl
 rw[aK a,cj a];rfl
def akp{α}{a:α->Tx}{p r x}(b:kA a (p++x::r)):(∀y∈p,dK (a y) (a x)=true)/\∀y∈r,dK (a x) (a y)=true:=by unfold kA at b;rw[Po,Pk] at b;obtain⟨_,d,e⟩:=b;exact⟨λy c=>e _ (Ya c) _ aW,λy c=>(ym.1 d).1 _ (Ya c)⟩
def O9{α}(key:α->Tx){l}(j:kA key l){x c}(k:x∈l)(m:key c=key x):lR key (sR key l<|key x) c=l.map λy=>if key y=key x then c else y:=by
 obtain⟨p,r,rfl⟩:=List.append_of_mem k;obtain⟨d,f⟩:=akp j;have g:=λy a=>wR (d y a);have h:∀y∈r,key y≠key x:=λy a e=>wR (f y a) e.symm;have n:sR key (p++x::r) (key x)=p++r:=by unfold sR;rw[Yc,adS,aK aW,Hp.2 (λy a=>cT (g y a)),Hp.2 λy a=>cT (h y a)]
 have i:r.takeWhile (λy=>dK (key y) (key x))=[]/\r.dropWhile (λy=>dK (key y) (key x))=r:=by cases r with|nil=>exact⟨rfl,rfl⟩|cons b r =>have:=p9 (f b aW);rw[Pm,X2,aK (by simp[this]),aK (by simp[this])];exact⟨rfl,rfl⟩
 rw[n];unfold lR;rw[m,List.takeWhile_append_of_pos d,List.dropWhile_append_of_pos d,i.1,i.2,Po,Pp,(Pd λy a=>aK (g y a):p.map (λy=>if key y=key x then c else y)=p.map id),(Pd λy a=>aK (h y a):r.map (λy=>if key y=key x then c else y)=r.map id)]
 simp
def LS{α} key (nm:α->List Tx) f id g (w:g.Nodup) (h:∀y,key y=id->nm (f y)=g) (b:∀y,key y≠id->nm (f y)=nm y) :
  ∀{l},kA key l->(∀y∈l,key y≠id->∀n∈nm y,n∉g)->(l.flatMap nm).Nodup->((l.map f).flatMap nm).Nodup:=by
 intro l;induction l with|nil=>intro _ _ _;exact Yj|cons a r x =>intro u k d;have o:kA key r:=(ym.1 u).2;rw[M9,Yd] at d;obtain⟨p,s,t⟩:=d;rw[Pp,M9,Yd];refine⟨?_,x o (λy i=>k y (by simp[i])) s,λn d m c=>?_⟩;{by_cases q:key a=id;{rw[h a q];exact w};rw[b a q];exact p};rw[Hs] at c;obtain⟨z,A,c⟩:=c;obtain⟨y,i,rfl⟩:=Bc.1 A;by_cases q:key a=id;{rw[h a q] at d;have j:key y≠id:=λe=>(λy i=>wR ((ym.1 u).1 _<|Ya i)) y i (q.trans e.symm);rw[b y j] at c;rintro rfl;exact k y (by simp[i]) j _ c d};rw[b a q] at d;by_cases v:key y=id;{rw[h y v] at c;rintro rfl;exact k a aW q _ d c};rw[b y v] at c;exact t _ d _ (Hs.2 ⟨y,i,c⟩)
def adt{α}{a:α->Tx}{f l}(h:∀x∈l,a (f x)=a x)(b:kA a l):kA a (l.map f):=by unfold kA at b⊢;rw[Yl,show l.map (a ∘ f)=l.map a from Pd h];exact b
def lN.akq{s}(h:lN s) f (b:∀x∈s.1,(f x).1=x.1/\(f x).2.2.1=x.2.2.1/\(f x).2.2.2.1=x.2.2.2.1/\OkB (f x)) (d:((s.1.map f).flatMap (·.2.1)).Nodup):lN (s.1.map f,s.2):=by
 refine⟨jh.boxes (by rw[qg];exact h.agS) (λy c=>?_) (adt (λx a=>(b x a).1) h.DZ) d,h.i,h.l,h.lays,h.NV,h.tops,λy c=>?_,h.U9,h.GZ⟩
 {obtain⟨x,a,rfl⟩:=Bc.1 c;exact(b x a).2.2.2};obtain⟨x,a,rfl⟩:=Bc.1 c;obtain⟨_,e,g,_⟩:=b x a;have:=h.refs x a;unfold E5 at this⊢;rw[e,g];exact this
def uw.akq{s}(h:uw s) f (a:∀x∈s.1,BdB (f x)):uw (s.1.map f,s.2) :=⟨h.ll,h.il,by show(s.1.map f).length<=40;rw[qg];exact h.bl,h.xl,h.xi,λy b=>by obtain⟨x,c,rfl⟩:=Bc.1 b;exact a x c,h.dl,h.ml⟩
def lN.akr{s}(h:lN s) f (c:∀x∈s.2.1,(f x).1=x.1/\(f x).2.2.1=x.2.2.1/\acV (f x)) (d:((s.2.1.map f).flatMap (·.2.1)).Nodup):lN (s.1,s.2.1.map f,s.2.2):=by
 refine h.NW (jh.NW (by rw[qg];exact h.agR) (λy b=>?_) (adt (λx a=>(c x a).1) h.E9) d) (λy b=>?_) λx a=>?_
 .obtain⟨x,a,rfl⟩:=Bc.1 b;exact(c x a).2.2
 {obtain⟨x,a,rfl⟩:=Bc.1 b;have:=h.tops x a;unfold aar at this⊢;rw[(c x a).2.1];exact this};rcases(h.refs x a).1 with q|⟨y,b,e⟩;{exact .inl q};exact .inr ⟨f y,Ya b,by rw[(c y b).1,e]⟩
def uw.akr{s}(h:uw s) f (a:∀x∈s.2.1,BdI (f x)):uw (s.1,s.2.1.map f,s.2.2) :=h.NW (by rw[qg];exact h.il) λy b=>by obtain⟨x,c,rfl⟩:=Bc.1 b;exact a x c
def hdL(x:bD):Tx×Tx:=(x.1,x.2.1)
def LU{ls a}(b:a.map hdL=ls.map hdL) id:DY a id=DY ls id:=by
 have:∀l,DY l id=(l.map hdL).findIdx? λz=>decide (z.1=id):=λl=>by rw[List.findIdx?_map];rfl
 rw[this,this,b]
def ahe{ls b}(f:b.map hdL=ls.map hdL):∀n id c a,a.map (·.1)=c.map (·.1)->(AO b n id a).2=(AO ls n id c).2/\(AO b n id a).1.map (·.1)=(AO ls n id c).1.map (·.1):=by
 have at':∀i,(b[i]?).map hdL=(ls[i]?).map hdL:=λi=>by rw[<-B7,<-B7,f]
 intro n;induction n with|zero =>(intro id c a g;unfold AO;rw[LU f];cases DY ls id with|none=>exact⟨rfl,rfl⟩|some i=>exact⟨rfl,rfl⟩)|succ n k =>intro id c a g;unfold AO;rw[LU f];cases DY ls id with|none=>exact⟨rfl,rfl⟩|some i =>have h:=at' i;dsimp only;cases j:ls[i]? with|none =>(rw[j] at h;cases e:b[i]? with|none=>exact⟨rfl,rfl⟩|some y=>rw[e] at h;cases h)|some x =>rw[j] at h;cases e:b[i]? with|none=>rw[e] at h;cases h|some y =>(rw[e] at h;have h:=aU h;have d:(a++[y]).map (·.1)=(c++[x]).map (·.1):=by rw[Po,g];simp[((b9 h).1)]);dsimp only;rw[((b9 h).2)];by_cases q:x.2.1=[];{rw[aN q,aN q];exact⟨rfl,d⟩};rw[aK q,aK q];exact k _ _ _ d
def MU{ls b}(f:b.map hdL=ls.map hdL) ds id:(bB b id).2=(bB ls id).2/\dZ b ds id=dZ ls ds id:=by
 obtain⟨c,d⟩:=ahe f 16 id [] [] rfl;have c:(bB b id).2=(bB ls id).2:=c;have d:(bB b id).1.map _=(bB ls id).1.map (·.1):=d;refine⟨c,?_⟩;have hd:∀a,x4 b ds a=x4 ls ds a:=λa=>by unfold x4;rw[LU f]
 have e:∀l:List bD,(l.reverse.map λx=>x4 ls ds x.1)=(l.map _).reverse.map (x4 ls ds):=λl=>by rw[<-List.map_reverse,Yl];rfl
 unfold dZ;simp only[hd];rw[c,e,e,d]
def lN.aon{s}(h:lN s) f (g:∀x∈s.2.2.1,(f x).1=x.1/\(f x).2.1=x.2.1/\(f x).2.2.2=x.2.2.2/\OkL (f x)) (m:((s.2.2.1.map f).flatMap (·.2.2.1)).Nodup):lN (s.1,s.2.1,s.2.2.1.map f,s.2.2.2):=by
 have k:(s.2.2.1.map f).map hdL=s.2.2.1.map hdL:=by rw[Yl];exact Pd λx c=>by obtain⟨j,l,_⟩:=g x c;unfold hdL;simp[j,l]
 have mem:∀a,(∃y∈s.2.2.1,y.1=a)->∃y∈s.2.2.1.map f,y.1=a:=λa ⟨y,hy,e⟩=>⟨f y,Ya hy,by rw[(g y hy).1,e]⟩;refine⟨h.b,h.i,jh.lays (by rw[qg];exact h.aas) (λy hy=>?_) (adt (λx c=>(g x c).1) h.Xn) m,⟨?_,λy hy=>?_,λi y d hy n=>?_⟩,h.NV,λx c=>(h.tops x c).imp_right (mem _),λx c=>⟨(h.refs x c).1,mem _ (h.refs x c).2⟩,λx c=>⟨mem _ (h.U9 x c).1,(h.U9 x c).2⟩,h.GZ⟩
 .obtain⟨x,c,rfl⟩:=Bc.1 hy;exact(g x c).2.2.2
 .show s.2.2.2.1.length=(s.2.2.1.map f).length;rw[qg];exact h.lays.same
 {obtain⟨x,c,rfl⟩:=Bc.1 hy;rw[(MU k [] _).1,(g x c).1];exact h.lays.chain x c};have hy:=hy;rw[B7] at hy;cases c:s.2.2.1[i]? with|none=>rw[c] at hy;cases hy|some x =>rw[c] at hy;obtain rfl:=aU hy;obtain⟨j,l,o,_⟩:=g x (kG c);have:=h.lays.each i x d c n;rw[(MU k _ _).2,o,j];exact this
def uw.aon{s}(h:uw s) f (a:∀x∈s.2.2.1,BdL (f x)):uw (s.1,s.2.1,s.2.2.1.map f,s.2.2.2) :=⟨by show(s.2.2.1.map f).length<=40;rw[qg];exact h.ll,h.il,h.bl,λy b=>by obtain⟨x,c,rfl⟩:=Bc.1 b;exact a x c,h.xi,h.xb,h.dl,h.ml⟩
def ahf{s}(d:uw s)(a:lN s){x}(k:x∈s.2.2.1) n (o:n<=1000):lN (NY s x.1 n)/\uw (NY s x.1 n):=by
 have f:kA _ (sR _ s.2.2.2.2.1 x.1):=Xj _ a.GZ _;have go:∀l,kA _ l->(∀m∈l,O0 s m)->lN (s.1,s.2.1,s.2.2.1,s.2.2.2.1,l,s.2.2.2.2.2)/\uw (s.1,s.2.1,s.2.2.1,s.2.2.2.1,l,s.2.2.2.2.2):=λl j c=>by
  have p:=aj8 (List.Pairwise.imp (wR) j) (λz r=>by obtain⟨m,g,rfl⟩:=Bc.1 r;obtain⟨⟨y,h,e⟩,_⟩:=c m g;exact Bc.2 ⟨y,h,e⟩)
  have t:=a.aas;rw[qg,qg] at p;exact⟨⟨a.b,a.i,a.l,a.lays,by show l.length<=32;omega,a.tops,a.refs,c,j⟩,⟨d.ll,d.il,d.bl,d.xl,d.xi,d.xb,d.dl,by show l.length<=1000000;omega⟩⟩
 unfold NY;by_cases q:0<n
 {rw[aN q];refine go _ (O1 _ f λy h=>((F4 _).1 h).2) λm c=>?_;rcases(wu _).1 c with rfl|c;{exact⟨⟨x,k,rfl⟩,by show 1<=n;omega,o⟩};exact a.U9 m ((F4 _).1 c).1};rw[aK q];exact go _ f λm c=>a.U9 m ((F4 _).1 c).1
def fW(s:aL)(r:aL×lS×al):Prop:=r.2.1.1≠0->r=(s,gl r.2.1.1,())
def fW.ite{s p}[Decidable p]{u v}(a:p->fW s u)(b:¬p->fW s v):fW s (if p then u else v):=by
 split
 {exact a ‹_›};exact b ‹_›
def fW.D2{s e}:fW s (s,gl e,()):=λ_=>rfl
def fW.ok{s t id a n}:fW s (t,(0,id,n,a,()),()):=λh=>absurd rfl h
def A7(s:aL)(r:aL×lS×al):Prop:=lN r.1/\uw r.1
def A7.ite{s p}[Decidable p]{u v}(a:p->A7 s u)(b:¬p->A7 s v):A7 s (if p then u else v):=by
 split
 {exact a ‹_›};exact b ‹_›
def aks{l id given}(h:ju l id given=0):gP given=true/\∀x∈l,x.1≠id->∀n∈x.2.1,n∉given:=by
 unfold ju at h;by_cases c:dA given=0
 rotate_left
 .rw[aN c] at h;exact absurd h c
 rw[aK λq=>q c] at h;refine⟨?_,λx g a n j k=>?_⟩
 .unfold dA at c;by_cases q:gP given=true;{exact q};rw[aK q] at c;cases c
 have m:Li l given (BA l id)=true:=by rw[BB];obtain⟨i,d⟩:=bp.1 g;refine⟨i,x,d,?_⟩;unfold NR;rw[gC,Pe,SM];refine⟨λe=>?_,n,j,cT k⟩;obtain⟨y,f,b⟩:=acB e.symm;rw[d] at f;exact a (aU f▸b)
 rw[aN m] at h;cases h
def aaW{a b:Type}{l:List a}{f g:a->List b}(h:∀x∈l,f x=g x):l.flatMap f=l.flatMap g:=by rw[List.flatMap_def,List.flatMap_def,Pd h]
def AU{g}(h:gP g=true):g.Nodup:=by unfold gP at h;simp at h;exact h.1.2
def VH{l:List Item}(b:OkI l){p d}(a:(jy l p d).2=0):OkI (jy l p d).1:=by
 have hv:fh p=true/\d.length<=64/\¬(sO l p=af/\4<=l.length)/\(jy l p d).1=Gy (OS l p) (p,ql d,d,()):=by unfold jy at a⊢;by_cases hv:fh p=true/\d.length<=64;{rw[aN hv] at a⊢;by_cases c:sO l p=af/\4<=l.length;{rw[aN c] at a;cases a};rw[aK c];exact⟨hv.1,hv.2,c,rfl⟩};rw[aK hv] at a;cases a
 obtain⟨g,h,j,e⟩:=hv;refine⟨?_,by rw[e];exact agV (am4 (al6 l p) b.2.1) (λx hx=>((al7 b.2.1).1 hx).2),λx hx=>?_⟩
 {rw[e,aay];unfold OS;cases f:sO l p with|none =>dsimp only;by_cases k:4<=l.length;{exact absurd ⟨f,k⟩ j};omega|some i =>have:=aeG f;rw[gR,cY,qo];have:=b.1;omega};rw[e] at hx;rcases aax.1 hx with rfl|hx;{exact⟨g,h,rfl⟩};exact b.2.2 x (akh hx)
def amt s c:fW s (itS s c):=by
 refine fW.ite (λ_=>fW.D2) λ_=>fW.ite (λ_=>fW.D2) λ_=>fW.ite (λ_=>?_) λ_=>?_;all_goals
  unfold itF;by_cases k:c.1=10
  .rw[aN k];split;{exact λ_=>rfl};exact fW.ok
  .rw[aK k];split
   .exact λ_=>rfl
   .exact fW.ok
def amu{s}(k:uw s)(a:lN s){c}(t:c.1=9\/c.1=10)(r:GB c):A7 s (itS s c):=by
 refine A7.ite (λ_=>⟨a,k⟩) λm=>A7.ite (λ_=>⟨a,k⟩) λu=>?_;have w:=Ig t (nF m);have o:=B0 (nF u);generalize (aS _ c.2.2.1).1=id at o;refine A7.ite (λv=>?_) λv=>?_
 .obtain⟨x,d,rfl⟩:∃x∈s.1,x.1=id:=by rcases o with ⟨_,h⟩|⟨q,_⟩|⟨q,_⟩;{exact h};{omega};omega
  rw[iy a.DZ d];cases g:(itF x.2.2.2.2.2.1 c x.1).1 with|none=>exact⟨a,k⟩|some l =>(have p:OkI l/\zq l:=by unfold itF at g;split at g;{split at g<;>cases g};split at g;{cases g};rename_i q;obtain rfl:=aU g;have q:=nF q;exact⟨VH ((a.b.bl x d).items) q,RT ((k.xb x d).2.2.2.2) r.key q⟩);(have e:amp s.1 x.1 (aa l)=s.1.map λy=>if y.1=x.1 then(x.1,x.2.1,x.2.2.1,x.2.2.2.1,x.2.2.2.2.1,l,()) else y:=by unfold amp;rw[iy a.DZ d];exact O9 _ a.DZ d rfl);have n:=a.b.bl x d;have f:=k.xb x d;rw[e];refine⟨a.akq _ (λy j=>?_) ?_,k.akq _ λy j=>?_⟩;{by_cases q:y.1=x.1;{obtain rfl:=a.DZ.inj _ j d q;rw[aN rfl];exact⟨rfl,rfl,rfl,n.id,n.SJ,n.img,n.lay,n.iF,p.1⟩};rw[aK q];exact⟨rfl,rfl,rfl,a.b.bl y j⟩};{(rw[List.flatMap_map,show s.1.flatMap _=s.1.flatMap (λy=>y.2.1) from aaW λy j=>by by_cases q:y.1=x.1;{obtain rfl:=a.DZ.inj _ j d q;rw[aN rfl]};rw[aK q]]);exact a.amd};by_cases q:y.1=x.1;{rw[aN q];exact⟨f.1,f.2.1,f.2.2.1,f.2.2.2.1,p.2⟩};rw[aK q];exact k.xb y j
 obtain⟨x,d,rfl⟩:∃x∈s.2.1,x.1=id:=by rcases o with ⟨q,_⟩|⟨_,h⟩|⟨q,_⟩;{omega};{exact h};omega
 rw[iy a.E9 d];cases g:(itF x.2.2.2.2.1 c x.1).1 with|none=>exact⟨a,k⟩|some l =>(have p:OkI l/\zq l:=by unfold itF at g;split at g;{split at g<;>cases g};split at g;{cases g};rename_i q;obtain rfl:=aU g;have q:=nF q;exact⟨VH ((a.i.il x d).items) q,RT ((k.xi x d).2.2.2) r.key q⟩);(have e:Xw s.2.1 x.1 (aa l)=s.2.1.map λy=>if y.1=x.1 then(x.1,x.2.1,x.2.2.1,x.2.2.2.1,l,()) else y:=by unfold Xw;rw[iy a.E9 d];exact O9 _ a.E9 d rfl);have n:=a.i.il x d;have f:=k.xi x d;rw[e];refine⟨a.akr _ (λy j=>?_) ?_,k.akr _ λy j=>?_⟩;{by_cases q:y.1=x.1;{obtain rfl:=a.E9.inj _ j d q;rw[aN rfl];exact⟨rfl,rfl,n.id,n.SJ,n.top,n.iF,p.1⟩};rw[aK q];exact⟨rfl,rfl,a.i.il y j⟩};{(rw[List.flatMap_map,show s.2.1.flatMap _=s.2.1.flatMap (λy=>y.2.1) from aaW λy j=>by by_cases q:y.1=x.1;{obtain rfl:=a.E9.inj _ j d q;rw[aN rfl]};rw[aK q]]);exact a.al5};by_cases q:y.1=x.1;{rw[aN q];exact⟨f.1,f.2.1,f.2.2.1,p.2⟩};rw[aK q];exact k.xi y j
def amv s c:fW s (rcS s c):=fW.ite (λ_=>fW.D2) λ_=>fW.ite (λ_=>fW.ok) λ_=>fW.ite (λ_=>fW.D2) λ_=>fW.ite (λ_=>fW.D2) λ_=>fW.ite (λ_=>fW.ok) λ_=>fW.ok
def amw{la}(b:kA (·.1) la){x}(c:x∈la) g:rnL la x.1 g=la.map λy=>if y.1=x.1 then(x.1,x.2.1,g,x.2.2.2) else y:=by obtain⟨i,a⟩:=bp.1 c;unfold rnL;rw[iy b c,C1 b a,Option.getD_some];apply Pg;intro j;rw[ahL,B7];cases hy:la[j]? with|none =>by_cases q:i=j;{subst q;rw[a] at hy;cases hy};rw[aK q];rfl|some y =>have:=akj _ b a hy;by_cases q:i=j;{subst q;rw[aN rfl,aN (aA a),Mb,aN (this.2 rfl)]};rw[aK q,Mb,aK λz=>q (this.1 z).symm]
def amx{s}(b:lN s):(∀x∈s.1,((x.1,x.2.1,()):Nm)∈wA s 1)/\(∀x∈s.2.1,((x.1,x.2.1,()):Nm)∈wA s 2)/\∀x∈s.2.2.1,((x.1,x.2.2.1,()):Nm)∈wA s 3:=by
 refine⟨λx a=>?_,λx a=>?_,λx a=>?_⟩
 .rcases yl s 1 with ⟨_,e⟩|⟨q,_⟩|⟨q,_⟩|_;{exact Gc a};{cases q};{cases q};exact Gc a
 {rcases yl s 2 with ⟨q,_⟩|⟨_,e⟩|⟨q,_⟩|_;{cases q};{exact F7 a};{cases q};exact F7 a};rcases yl s 3 with ⟨q,_⟩|⟨q,_⟩|⟨_,e⟩|_;{cases q};{cases q};{exact J4 b a};exact J4 b a
def amy{s}(o:uw s)(a:lN s){c}(D:GB c):A7 s (rcS s c):=by
 refine A7.ite (λ_=>⟨a,o⟩) λm=>A7.ite (λ_=>⟨a,o⟩) λ_=>A7.ite (λ_=>⟨a,o⟩) λ_=>A7.ite (λ_=>⟨a,o⟩) λp=>A7.ite (λA=>?_) λ_=>⟨a,o⟩;have p:=nF p;have C:=nF λq=>by unfold rcE at p;rw[aK λz=>q z.1] at p;exact q p
 have B:ju (wA s c.2.1) (aS (wA s c.2.1) c.2.2.1).1 c.2.2.2.2.1=0:=by
  unfold rcE at p
  rwa [aN ⟨C,A⟩] at p
 have r:=B0 C;obtain⟨t,u⟩:=aks B;have w:=D.SJ;obtain⟨E,F,G⟩:=amx a;generalize c.2.2.2.2.1=g at t u w;generalize (aS _ c.2.2.1).1=id at r u;generalize c.2.1=k at r u;rcases r with ⟨rfl,x,j,rfl⟩|⟨rfl,x,j,rfl⟩|⟨rfl,x,j,rfl⟩
 .have e:rnB s.1 x.1 g=s.1.map λy=>if y.1=x.1 then(x.1,g,x.2.2) else y:=by unfold rnB;rw[iy a.DZ j];exact O9 _ a.DZ j rfl
  have h:=a.b.bl x j;have f:=o.xb x j;show lN (rnB s.1 x.1 g,s.2)/\uw (rnB s.1 x.1 g,s.2);rw[e];refine⟨a.akq _ (λy d=>?_)<|LS _ _ _ x.1 g (AU t) (λy q=>by rw[aN q]) (λy q=>by rw[aK q]) a.DZ (λy d q n v=>u _ (E y d) q n v) a.amd,o.akq _ λy d=>?_⟩;{by_cases q:y.1=x.1;{obtain rfl:=a.DZ.inj _ d j q;rw[aN rfl];exact⟨rfl,rfl,rfl,h.id,t,h.img,h.lay,h.iF,h.items⟩};rw[aK q];exact⟨rfl,rfl,rfl,a.b.bl y d⟩};by_cases q:y.1=x.1;{rw[aN q];exact⟨f.1,w,f.2.2⟩};rw[aK q];exact o.xb y d
 .have e:rnI s.2.1 x.1 g=s.2.1.map λy=>if y.1=x.1 then(x.1,g,x.2.2) else y:=by unfold rnI;rw[iy a.E9 j];exact O9 _ a.E9 j rfl
  have h:=a.i.il x j;have f:=o.xi x j;show lN (s.1,_)/\uw (s.1,_);rw[e];refine⟨a.akr _ (λy d=>?_)<|LS _ _ _ x.1 g (AU t) (λy q=>by rw[aN q]) (λy q=>by rw[aK q]) a.E9 (λy d q n v=>u _ (F y d) q n v) a.al5,o.akr _ λy d=>?_⟩;{by_cases q:y.1=x.1;{obtain rfl:=a.E9.inj _ d j q;rw[aN rfl];exact⟨rfl,rfl,h.id,t,h.top,h.iF,h.items⟩};rw[aK q];exact⟨rfl,rfl,a.i.il y d⟩};by_cases q:y.1=x.1;{rw[aN q];exact⟨f.1,w,f.2.2⟩};rw[aK q];exact o.xi y d
 have e:=amw a.Xn j g;have h:=a.l.ll x j;have f:=o.xl x j;show lN (s.1,_)/\uw (s.1,_);rw[e];refine⟨a.aon _ (λy d=>?_)<|LS _ _ _ x.1 g (AU t) (λy q=>by rw[aN q]) (λy q=>by rw[aK q]) a.Xn (λy d q n v=>u _ (G y d) q n v) a.aoa,o.aon _ λy d=>?_⟩;{by_cases q:y.1=x.1;{obtain rfl:=a.Xn.inj _ d j q;rw[aN rfl];exact⟨rfl,rfl,rfl,h.id,h.par,t,h.dig,h.s0,h.s1,h.b0,h.b1⟩};rw[aK q];exact⟨rfl,rfl,rfl,a.l.ll y d⟩};by_cases q:y.1=x.1;{rw[aN q];exact⟨f.1,f.2.1,w,f.2.2.2⟩};rw[aK q];exact o.xl y d
def ae3 s ref d:fW s (ctS s ref d):=fW.ite (λ_=>fW.D2) λ_=>fW.ite (λ_=>fW.D2) λ_=>fW.ite (λ_=>fW.D2) λ_=>fW.ok
def ae4{s}(b:uw s)(a:lN s) ref {d} (hd:d=1\/d=-1):A7 s (ctS s ref d):=by refine A7.ite (λ_=>⟨a,b⟩) λe=>A7.ite (λ_=>⟨a,b⟩) λf=>A7.ite (λ_=>⟨a,b⟩) λi=>?_;obtain⟨y,g,c⟩:=nz (nF e);obtain⟨x,h,rfl⟩:=C0 g;have c:x.1=(aS _ ref).1:=c;rw[<-c] at f⊢;obtain⟨⟨j,k⟩,_⟩:=a.Xt (id:=x.1) (by have:=a.NV;omega);exact ahf b a h _ ai
def lN.box{s}(h:lN s){b}(j:OkB b)(m:s.1.length<32)(e:∀y∈s.1,y.1≠b.1)(g:∀y∈s.1,∀n∈y.2.1,n∉b.2.1)(f:E5 s b):lN (lR (·.1) s.1 b,s.2):=by
 have d:∀y,y∈lR (λy=>y.1) s.1 b↔y=b\/y∈s.1:=λy=>wu _;refine⟨jh.boxes ?_ ?_ (O1 _ h.DZ e) ?_,h.i,h.l,h.lays,h.NV,h.tops,?_,h.U9,h.GZ⟩
 .rw[E6];omega
 .intro y hy;rcases(d y).1 hy with rfl|hy;{exact j};exact h.b.bl y hy
 {have o:=(BR (λy=>y.1) s.1 b).flatMap_right (λy=>y.2.1);rw[o.nodup_iff,M9,Yd];refine⟨?_,h.amd,λa p c k=>?_⟩;{have:=j.SJ;unfold gP at this;simp at this;exact this.1.2};rw[Hs] at k;obtain⟨y,hy,q⟩:=k;rintro rfl;exact g y hy a q p};intro y hy;rcases(d y).1 hy with rfl|hy;{exact f};exact h.refs y hy
def uw.box{s}(h:uw s){b}(a:BdB b)(c:s.1.length<32):uw (lR (·.1) s.1 b,s.2):=by
 refine⟨h.ll,h.il,?_,h.xl,h.xi,λy hy=>?_,h.dl,h.ml⟩
 {show(lR _ s.1 b).length<=40;rw[E6];omega};rcases(wu _).1 hy with rfl|hy;{exact a};exact h.xb y hy
def lN.amz{s}(h:lN s) id:lN (sR (·.1) s.1 id,s.2):=by have a:=mC (λy=>y.1) s.1 id;exact⟨jh.boxes (gS a.length_le h.agS) (λy c=>h.b.bl y (a.subset c)) (Xj _ h.DZ id)<|ahJ (E8 a _) h.amd,h.i,h.l,h.lays,h.NV,h.tops,λy c=>h.refs y (a.subset c),h.U9,h.GZ⟩
def adu s:(DA s).length=s.1.length:=by unfold DA;induction s.1 with|nil=>rfl|cons a r b=>rw[M9,gR,b];simp[ofB];omega
def adv{d}(h:mA d):d.length<=8192:=by apply nF;intro q;have a:=h.1;unfold Gz at a;rw[(Lu d ai)] at a;cases a
def amA s on given a d:fW s (crS s on given a d):=fW.ite (λ_=>fW.D2) λ_=>fW.ite (λ_=>fW.D2) λ_=>fW.ite (λ_=>fW.D2) λ_=>fW.ite (λ_=>fW.D2) λ_=>fW.ite (λ_=>fW.D2) λ_=>fW.ite (λ_=>fW.D2) λ_=>fW.ite (λ_=>fW.D2) λ_=>fW.ite (λ_=>fW.D2) λ_=>fW.ok
def amB{s}(a:uw s)(b:lN s) on {given} c d (f:ow given):A7 s (crS s on given c d):=by
 by_cases q:c.length<=8192
 {obtain⟨g,h,_⟩:=VA a b on given c d f q;exact⟨g,h⟩};unfold crS;refine A7.ite (λ_=>⟨b,a⟩) λ_=>?_;rw[aN ⟨λe=>q (by rw[e];decide),λe=>q (adv e)⟩];exact⟨b,a⟩
def amC s ref:fW s (dlS s ref):=fW.ite (λ_=>fW.D2) λ_=>fW.ite (λ_=>fW.D2) λ_=>fW.ok
def amD s top given me d:fW s (crI s top given me d):=fW.ite (λ_=>fW.D2) λ_=>fW.ite (λ_=>fW.D2) λ_=>fW.ite (λ_=>fW.D2) λ_=>fW.ite (λ_=>fW.D2) λ_=>fW.ok
def amE s ref:fW s (dlI s ref):=fW.ite (λ_=>fW.D2) λ_=>fW.ite (λ_=>fW.D2) λ_=>fW.ok
def amF s image given me d:fW s (crB s image given me d):=fW.ite (λ_=>fW.D2) λ_=>fW.ite (λ_=>fW.D2) λ_=>fW.ite (λ_=>fW.D2) λ_=>fW.ite (λ_=>fW.D2) λ_=>fW.ite (λ_=>fW.D2) λ_=>fW.ok
def amG s ref:fW s (dlW s ref):=fW.ite (λ_=>fW.D2) λ_=>fW.ite (λ_=>fW.D2) λ_=>fW.ok
def amH{s}(r:uw s)(l:lN s) image {given} me d (J:ow given):A7 s (crB s image given me d):=by
 refine A7.ite (λ_=>⟨l,r⟩) λW=>A7.ite (λ_=>⟨l,r⟩) λK=>A7.ite (λ_=>⟨l,r⟩) λL=>A7.ite (λ_=>⟨l,r⟩) λM=>A7.ite (λ_=>⟨l,r⟩) λI=>?_;have o:=VA r l (if image=[] then [] else zc s (zt s image)) [] [] (Fe d) aaR aI;simp only[O7] at o;generalize crG s _ [] _=q at o I;obtain⟨N,O,_,P⟩:=o;have k:=P (nF I);obtain⟨C,D,Q⟩:=yU (nF M);rw[adu] at C;obtain⟨R,S⟩:=Xm (nF L) (λy j=>by obtain⟨x,t,rfl⟩:=Gd j;intro u;have:=(l.b.bl x t).id;rw[show x.1=[] from u] at this;exact sb this)
 have E:∀y∈s.1,∀n∈y.2.1,n∉given:=λy j n F=>S _ (Gc j) n F;have v:∀y∈s.1,y.1≠(cO _ _).1:=λy j=>Q _ (Gc j);have f:zt s image=[]\/∃y∈s.2.1,y.1=zt s image:=by unfold zt;by_cases c:image=[];{rw[aN c];exact .inl rfl};rw[aK c];right;obtain⟨y,j,u⟩:=nz (nF λk=>K ⟨c,k⟩);obtain⟨z,T,rfl⟩:=F8 j;exact⟨z,T,u⟩
 generalize (cO _ _).1=id at D v;generalize zt s image=im at f;have g:im=[]\/BG im:=by rcases f with k|⟨y,j,u⟩;{exact .inl k};exact .inr (u▸(l.i.il y j).id)
 have p:me.length<=64:=by omega
 have hlen:∀{a},BG a->a.length<=1048576:=λ{a} h=>by have:=h.2;omega
 have w:=k.id;have e:q.1=RF s _ (AQ []):=congrArg _ k.val;have A:q.1.1=s.1:=by rw[e];rfl
 have U:q.1.2.1=s.2.1:=by rw[e];rfl
 have V:∃y∈q.1.2.2.1,y.1=q.2.1.2.1:=by generalize F:NZ q.2.1.2.1 _ [] []=n at e;refine⟨n,?_,by rw[<-F];rfl⟩;rw[e];exact(wu _).2 (.inl rfl)
 have G:OkB ((id,given,im,q.2.1.2.1,me,[],()):r5):=⟨D,R,g,w,p,⟨aW,List.Pairwise.nil,λx t=>(by cases t)⟩⟩;have H:im.length<=1048576:=by rcases g with k|k;{rw[k];simp};exact hlen k
 have m:=N.box G (by rw[A];exact C) (by rw[A];exact v) (by rw[A];exact E) ⟨by rw[U];exact f,V⟩;have B:=O.box (b:=((id,given,im,q.2.1.2.1,me,[],()):r5)) ⟨hlen D,J,H,hlen w,⟨aW,λx t=>(by cases t)⟩⟩ (by rw[A];exact C);rw[A] at m B;exact⟨m,B⟩
def amI{s}(a:uw s)(c:lN s) ref:A7 s (dlW s ref):=by
 refine A7.ite (λ_=>⟨c,a⟩) λn=>A7.ite (λ_=>⟨c,a⟩) λf=>?_;obtain⟨y,d,o⟩:=nz (nF n);obtain⟨b,h,rfl⟩:=Gd d;rw[<-o] at f⊢;rw[aaL c.DZ h] at f⊢;have p:wx (sR (λz=>z.1) s.1 b.1,s.2) b.2.2.2.1=false:=by cases q:wx _ b.2.2.2.1 with|false=>rfl|true=>exact absurd (.inr q) f
 obtain⟨j,k,l⟩:=aaC p;obtain⟨z,r,g⟩:=(c.refs b h).2;obtain⟨i,m⟩:=bp.1 r;have e:=(c.Xt (id:=b.2.2.2.1) (by have:=c.NV;omega)).2 ai;rw[<-g] at j k l e⊢;have t:TR (sR (λz=>z.1) s.1 b.1,s.2) z.1=(sR (λz=>z.1) s.1 b.1,s.2.1,cutAt s.2.2.1 i,cutAt s.2.2.2.1 i,s.2.2.2.2):=by unfold TR;rw[C1 c.Xn m,Xp c.lays.same];exact VB _ z.1 e
 have u:=Vw s.2.2.1 i;have v:=a.ll;rw[t];exact⟨(c.amz b.1).less m j k l e,⟨by show(cutAt s.2.2.1 i).length<=40;omega,a.il,gS (mC _ _ _).length_le a.bl,λy d=>a.xl y (F9 _ _ y d),a.xi,λy d=>a.xb y ((mC _ _ _).subset d),λy d=>a.dl y (F9 _ _ y d),a.ml⟩⟩
def akt{s}(a:uw s)(b:lN s){c}(d:GB c):A7 s (TT s c):=by
 refine A7.ite (λ_=>amB a b _ _ _ d.SJ) λ_=>A7.ite (λ_=>?_) λ_=>A7.ite (λ_=>⟨b,a⟩) λ_=>A7.ite (λ_=>⟨b,a⟩) λ_=>A7.ite (λ_=>ae4 a b _ (.inl rfl)) λ_=>A7.ite (λ_=>ae4 a b _ (.inr rfl)) λ_ =>A7.ite (λ_=>?_) λ_=>A7.ite (λ_=>?_) λ_=>A7.ite (λ_=>amH a b _ _ _ d.SJ) λ_=>A7.ite (λ_=>amI a b _) λ_=>A7.ite (λk=>amu a b k d) λ_=>A7.ite (λ_=>amy a b d) λ_=>⟨b,a⟩
 .obtain⟨e,f,_⟩:=ag2 a b c.2.2.1;exact⟨e,f⟩
 {obtain⟨e,f,_⟩:=agU a b c.2.2.2.1 c.2.2.2.2.1 c.2.2.2.2.2.1 c.2.2.2.2.2.2.2.1 d.SJ;exact⟨e,f⟩};obtain⟨e,f,_⟩:=agT a b c.2.2.1;exact⟨e,f⟩
def aoo s c:fW s (TT s c):=by
 refine fW.ite (λ_=>amA _ _ _ _ _) λ_=>fW.ite (λ_=>amC _ _) λ_=>fW.ite (λ_=>?_) λ_=>fW.ite (λ_=>?_) λ_=>fW.ite (λ_=>ae3 _ _ _) λ_=>fW.ite (λ_=>ae3 _ _ _) λ_ =>fW.ite (λ_=>amD _ _ _ _ _) λ_=>fW.ite (λ_=>amE _ _) λ_=>fW.ite (λ_=>amF _ _ _ _ _) λ_=>fW.ite (λ_=>amG _ _) λ_=>fW.ite (λ_=>amt _ _) λ_=>fW.ite (λ_=>amv _ _) λ_=>fW.D2
 {unfold dfA;split;{exact fW.D2};exact fW.ok};unfold chA;split;{exact fW.D2};split;{exact fW.D2};split;{exact fW.D2};exact fW.ok
def adw{s}(d:uw s)(a:lN s):W24 s where
 hd:=d.hd
 dl:=by have:=a.lays.same;have:=d.ll;omega
 ml:=by have:=a.NV;omega
 DZ:=a.DZ
 E9:=a.E9
 Xn:=a.Xn
 bits:=λx c=>(d.xb x c).2.2.2.2
 U9:=λx c=>(a.U9 x c).2
 idB:=λx c=>by have:=(a.b.bl x c).id.2;omega
 idI:=λx c=>by have:=(a.i.il x c).id.2;omega
 idL:=λx c=>by have:=(a.l.ll x c).id.2;omega
def adx{s}(a:uw s)(c:lN s):apI s:=⟨by have:=a.bl;omega,by have:=a.il;omega,by have:=a.ll;omega,by have:=c.lays.same;have:=a.ll;omega,a.ml,λx b=>⟨(a.xb x b).2.1,(a.xb x b).2.2.2.2⟩,λx b=>⟨(a.xi x b).2.1,(a.xi x b).2.2.2⟩,λx b=>(a.xl x b).2.2.1⟩
def apO:uw zS:=⟨aI,aI,aI,λx a=>(by cases a),λx a=>(by cases a),λx a=>(by cases a),λx a=>(by cases a),aI⟩
def apP:lN zS:=⟨jh.boxes aI Ak List.Pairwise.nil Yj,jh.NW aI Ak List.Pairwise.nil Yj,jh.lays aI Ak List.Pairwise.nil Yj,⟨rfl,λx a=>(by cases a),λi x d a=>(by cases i<;>cases a)⟩,aI,λx a=>(by cases a),λx a=>(by cases a),λx a=>(by cases a),List.Pairwise.nil⟩
noncomputable def smB(c:ff):Bool:=match nu (c,()) with|some (b,_)=>b|none=>false
def Xy(c:ff):nu (c,())=aa (smB c,())/\(smB c=true->GB c):=by obtain⟨b,a,h⟩:=aaP c;unfold smB;rw[a];exact⟨rfl,h⟩
def ahg(l:List ff):∃b,zY (l,20,())=aa (b,())/\(b=true->l.length<=20/\∀c∈l,GB c):=by
 unfold zY;rcases WS (f:=tP (l,20,())) l 20 (λi=>((false,i,()),())) (λ_ c=>! smB c) _ (λn=>(0,(false,n,()),())) ai (λi c d a e j=>by
  unfold tP;dsimp only;rw[aq a,aT ai,au d,ab,(Xy c).1,j];cases smB c<;>rfl) (by
  unfold tP;dsimp only;by_cases q:l.length<=20;{rw[Nat.min_eq_right q,aw,ag,ag]};rw[ aq ai,aj,aF ai,ag]) with ⟨i,c,a,d,m,_,h⟩|⟨e,h⟩
 {refine⟨false,?_,λq=>by cases q⟩;rw[h];rfl};refine⟨decide<|l.length<=20,?_,λq=>?_⟩;{rw[h,ab];dsimp only;rw[cu,aj,show cm _ 20=decide (l.length<=20) by unfold len;apply fk.2;omega]};have q:=gb q;refine⟨q,λc d=>?_⟩;obtain⟨i,a⟩:=bp.1 d;have g:=e i c (by have:=aA a;omega) a;refine(Xy c).2 ?_;cases k:smB c with|true=>rfl|false=>rw[k] at g;cases g
noncomputable def aku(p:aL×List lS)(c:ff):aL×List lS:=((TT p.1 c).1,p.2++[(TT p.1 c).2.1])
noncomputable def VI(l:List ff)(i:Nat):aL×List lS:=(l.take i).foldl aku (zS,[])
def R7{l i c}(h:l[i]?=aa c):VI l (i+1)=aku (VI l i) c:=by unfold VI;rw[yn,h,List.foldl_append];rfl
def Xz{l}(b:∀c∈l,GB c):∀i,i<=l.length->lN (VI l i).1/\uw (VI l i).1/\(VI l i).2.length=i:=by intro i;induction i with|zero=>intro _;exact⟨apP,apO,rfl⟩|succ i d =>intro k;obtain⟨e,f,g⟩:=d ai;have a:l[i]?=aa l[i]:=gQ ai;rw[R7 a];obtain⟨h,j⟩:=akt f e (b _<|kG a);refine⟨h,j,?_⟩;show(_++[_]).length=_;rw[gR,g];rfl
def aaX{l}(o:l.length<=1000)(e:∀c∈l,GB c){f}{D:aL×ff×al->Option (aL×lS×al)}
  (j:∀s c,lN s->uw s->GB c->D (s,c,())=aa (TT s c)) (h:∀a,f a=cf (ao (ba a.1.2.1<|len l) (ae (idx l a.1.2.1) λk=>ae (D (a.2.2.1,k,())) λb=>ao (fits<|plus (len a.2.1)<|len ([b.2.1]:List lS)) (aa<|aG (((),aC IntKind.i64 a.1.2.1 1,()),app a.2.1 ([b.2.1]:List lS),b.1,())) af) (aa<|aH (0,((),a.1.2.1,()),a.2.1,a.2.2.1,())))) :
  Loop f (((),0,()),([]:List lS),zS,())=aa (((),(l.length:Int),()),(VI l l.length).2,(VI l l.length).1,()) :=cp l.length (λi=>(((),(i:Int),()),(VI l i).2,(VI l i).1,())) (λi g=>by have d:=gQ g;obtain⟨m,n,p⟩:=Xz e i ai;rw[h,aq g,au d,ab,j _ _ m n (e _<|kG d),ab,aP dW,aJ ai,R7 d];rfl) (by rw[h,aw];rfl)
def ae5{l:List ff}(a:l.length<=1000)(b:∀c∈l,GB c):we (zS,l,())=aa ((VI l l.length).1,(VI l l.length).2,()):=ob (aaX a b (λs c d e f=>akg (adw e d) f) λy=>rfl) rfl
def aaY{l:List ff}(b:l.length<=1000)(d:∀c∈l,GB c):EC (zS,l,())=aa ((VI l l.length).1,(VI l l.length).2,()):=ob (aaX b d (λs c a e f=>ads (adw e a) a.GZ f) λy=>rfl) rfl
def Kd(l:List lS)(c:l.length<=1000):fL (l,l,())=aa (true,()):=by
 unfold fL;rw[mG,BV l ai (λi x a d b=>by unfold mv;rw[aq b,aj,aj,au a,ab,ab,aaF,aM,ag]) (by unfold mv;rw[aw,ag,ag])]
 rfl
end Go.Ge
namespace Go.Ge.W24
variable [Lp]
set_option maxRecDepth 100000
def dd1:TT t0 c1=(t1 (ql<|uW 1024)<|uW 1024,okW w1,()):=by show crS t0 [] [wb] [] 1=_;rw[O7,arJ];rfl
def dd2(D N:Tx):TT (t1 D N) c2=(t2 D N,okW w2,()):=by kernel_rfl
def dd3:TT (t2 (ql<|uW 1024)<|uW 1024) c3=(t3 (ql<|uW 1024) (uW 1024) [],(0,w3,0,w4,()),()):=by
 have b:dA []=0:=by kernel_rfl
 have a:∀D N,aS (wF<|t2 D N) ww=(w2,0,()):=λD N=>by kernel_rfl
 have c:∀D N,ju (DA<|t2 D N) [] []=0:=λD N=>by kernel_rfl
 have d:∀D N,cO (DA<|t2 D N) (Xs 67108867)=(w3,0,()):=λD N=>by kernel_rfl
 have f:∀D N,zc (t2 D N) w2=w1:=λD N=>by kernel_rfl
 have g:Fe 67108867=4:=by kernel_rfl
 have h:zt (t2 (ql<|uW 1024)<|uW 1024) ww=w2:=by unfold zt;rw[aK aI,a]
 have e:∀s:aL,TT s c3=crB s ww [] [] 67108867:=λs=>by unfold TT;rw[aK aI,aK aI,aK aI,aK aI,aK aI,aK aI,aK aI,aK aI,aN aI];rfl
 rw[e];unfold crB;rw[aK<|by rintro(q|q);exact q b;exact absurd q aI,a,aK (λq=>q.2 rfl),aK (λq=>q (c _ _)),d,aK (λq=>q rfl),aK (show ¬ww=[] by decide),h,f,g,arK,aK λq=>q rfl];rfl
def dd4(D N:Tx):TT (t3 D N []) c4=(t3 D N [],(7,[],0,[],()),()):=by kernel_rfl
def dd5(D N:Tx):TT (t3 D N []) c5=(t3 D N [itV],okW w2,()):=by kernel_rfl
def dd6(D N:Tx):TT (t3 D N [itV]) c6=(t3 D N [itV],(0,w2,0,[118],()),()):=by kernel_rfl
def dd7(D N:Tx)(l:List Item):TT (t3 D N l) c7=(t3 D N l,(0,[],0,a7,()),()):=by kernel_rfl
def dd8(D N:Tx)(l:List Item):TT (t3 D N l) c8=(t3 D N l,(1,[],0,[],()),()):=by kernel_rfl
def Ij:List ff:=[c1,c2,c3,c4,c5,c6,c7,c8]
def akv:List lS:=[okW w1,okW w2,(0,w3,0,w4,()),(7,[],0,[],()),okW w2,(0,w2,0,[118],()),(0,[],0,a7,()),(1,[],0,[],())]
def Ad{s b:aL}{a:List lS}{c:ff}{x:lS}(h:TT s c=(b,x,())):aku (s,a) c=(b,a++[x]):=by unfold aku;rw[h]
def arM:(VI Ij 8).2=akv:=by have a:zS=t0:=rfl;unfold VI;rw[Is aI,a];unfold Ij;rw[Nb,Ad dd1,Nb,Ad (dd2 _ _),Nb,Ad dd3,Nb,Ad (dd4 _ _),Nb,Ad (dd5 _ _),Nb,Ad (dd6 _ _),Nb,Ad (dd7 _ _ _),Nb,Ad (dd8 _ _ _)];rfl
def arN:∃t:aL,we (t0,Ij,())=aa (t,akv,())/\lN t/\uw t:=by
 have a:Ij.all smB=true:=by obtain rfl:‹Lp›=Lp.akZ:=Lp.one _ _;kernel_rfl
 have d:∀c∈Ij,GB c:=λc f=>(Xy c).2 (wH.1 a c f);have b:Ij.length=8:=rfl;have e:=ae5 (l:=Ij) (by rw[b];decide) d;obtain⟨g,h,_⟩:=Xz d 8 (by rw[b];decide);rw[b,arM] at e;exact⟨_,e,g,h⟩
def aoq:qJ ()=aa (true,()):=by
 obtain⟨t,a,b,c⟩:=arN;obtain⟨m,d,e⟩:=Vr _ c;obtain rfl:=e.2 b;have f:kz ((7,0,[],[],[],[],[],0,()),())=aa ([2,3],()):=by obtain rfl:‹Lp›=Lp.akZ:=Lp.one _ _;kernel_rfl
 have g:uR ([2,3],[2,3],())=aa (true,()):=by obtain rfl:‹Lp›=Lp.akZ:=Lp.one _ _;kernel_rfl
 have h:=Kd akv (by show 8<=1000;decide);unfold qJ;refine ob a (ob d ?_);refine ob (x:=true) ?_ ?_
 .show ae (fL (akv,akv,())) _=_;exact ob h rfl
 refine ob (x:=true) ?_ rfl;rw[aj];exact ob f (ob g rfl)
end Go.Ge.W24
namespace Go.Ge
variable [Lp]
def TV(l:List ff):od (l,())=aa (true,()):=by
 obtain⟨b,e,s⟩:=ahg l;unfold od;rw[e,ab,W24.aoq];cases b with|false=>rfl|true=>
 obtain⟨a,c⟩:=s rfl;obtain⟨n,o,x⟩:=Xz c l.length (b8 _);have key:=cp (f:=j7 (l,())) (r:=(0,(false,(l.length:Int),()),(VI l l.length).1,())) l.length (λi:Nat=>((false,(i:Int),()),(VI l i).1,())) (λi p=>by
  have h:l[i]?=aa l[i]:=gQ p;obtain⟨j,k,_⟩:=Xz c i ai;have d:=c _ (kG h);obtain⟨t,u⟩:=akt k j d;have g:=aoo (VI l i).1 l[i];obtain⟨m,v,w⟩:=Vr _ u;obtain rfl:=w.2 t;have es:=Ib (adx k j);unfold j7;dsimp only;rw[aq p,aj,au h,ab,akg (adw k j) d,ab,v,ab];dsimp only;rw[aM,aE,aj,R7 h];unfold aku;generalize TT (VI l i).1 l[i]=r at g;rw[aJ ai];by_cases q:r.2.1.1=0;{rw[ay q,aM,ag,ab,ab];rfl}
  .have g:=g q;generalize r.2.1.1=e at g q;subst g;rw[ax q,aE,aj];dsimp only;rw[es,ab,ab,ab];have:ao (nt<|nt true) (nt<|an (aR e e)<|an (bA (gl e).2.1 [])<|an (aR (gl e).2.2.1 0)<|an (bA (gl e).2.2.2.1 []) true) true=false:=by have:=aaF (gl e);rw[aM,aE,aj];exact congrArg nt this
   dsimp only;rw[this];rfl) (by
  unfold j7;dsimp only;rw[aw,ag])
 have y:((([]:List r5),([]:List eE),([]:List bD),([]:List Tx),([]:List uV),()):aL)=zS:=rfl;rw[aM,ag];refine ob (ae5 (gS a aI) c) ?_;refine ob (aaY (gS a aI) c) ?_;refine ob (Ib<|adx o n) ?_;dsimp only;rw[aM,aE,aj,Kd _ ai,ab,ab];dsimp only;rw[aM,ag];refine ob key ?_;dsimp only;rw[cu,aj];refine ob (Ib<|adx o n) ?_;rfl
end Go.Ge
