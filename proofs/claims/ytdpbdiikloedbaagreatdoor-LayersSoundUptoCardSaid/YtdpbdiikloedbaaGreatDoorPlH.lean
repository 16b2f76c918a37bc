/- Plain laws of what the functions compute: part 8. -/
import Derived.Test.YtdpbdiikloedbaaGreatDoorPlG
set_option linter.unusedSectionVars false
noncomputable section
namespace Go.Ge
variable [Lp]
def ae4(id a:Tx)(b:List Tx):ax:=(id,a,b,j0<|lL 1024,1024,0,true,())
def bT(s:aZ)(a:Tx):Tx:=if a=[] then [] else(cq (fH s) a).1
def crG(s:aZ)(b:Tx)(a:List Tx)(d:Int):aZ×P3×ai :=
 if lX a≠0 then(s,ua<|lX a,()) else
 if b≠[]/\(cq (fH s) b).2.1≠0 then(s,ua (cq (fH s) b).2.1,()) else
 if qO (fH s) [] a≠0 then(s,ua<|qO (fH s) [] a,()) else
 if(eo (fH s) d).2.1≠0 then(s,ua (eo (fH s) d).2.1,()) else
 if bT s b≠[]/\(bc s.2.2.1<|bT s b).2=0/\16<=(bc s.2.2.1<|bT s b).1.length then(s,ua 5,()) else
 (KP s (ae4 (eo (fH s) d).1 (bT s b) a)<|lL 1024,GI (eo (fH s) d).1,())
theorem y8(s:aZ)(b:Tx)(a:List Tx)(d:Int)(h:W3 s)(t:a.length<=4294967296) :
  cB (s,b,a,[],d,())=some (crG s b a d):=by
 have u:=h.ll;have o:aX (0:Int) 0=true:=rfl;have es:bt ([]:aq) ([]:aq)=true:=rfl;unfold cB;dsimp only;simp only[o,es,ab,ae,aA];rw[vG a t,aa];unfold crG;dsimp only;by_cases f:lX a=0
 rotate_left
 .rw[aQ f,aE f];simp only[aw,ab,aa,aE f];rfl
 rw[aM<|λq=>q f,aJ f];simp only[aA,ae,aa,o,fG];have p:(aj (nt<|decide<|b=[]) (af (cY (s,b,())) λg=>some ((g.2.1,()),g.1,()))<|some (((0:Int),()),([]:Tx),())) =
   some (((if b=[] then 0 else(cq (fH s) b).2.1),()),bT s b,()):=by
  unfold bT;by_cases q:b=[]
  .rw[dI q,aA,ae,aQ q,aQ q]
  .rw[cJ q,aw,ab,iS s b h,aa,aM q,aM q]
 rw[show(aj (nt<|decide<|b=[]) (af (cY (s,b,())) λg=>some ((g.2.1,()),g.1,()))<|some (((0:Int),()),([]:aq),()))=_ from p,aa];dsimp only;have c:(b≠[]/\(cq (fH s) b).2.1≠0)↔¬((if b=[] then 0 else(cq (fH s) b).2.1)=0):=by
  by_cases q:b=[]
  .simp[q]
  .simp[q]
 have i:(b≠[]/\(cq (fH s) b).2.1≠0)->(if b=[] then 0 else(cq (fH s) b).2.1)=(cq (fH s) b).2.1:=λq=>aM q.1;by_cases e:(if b=[] then 0 else(cq (fH s) b).2.1)=0
 rotate_left
 .rw[aQ<|c.2 e,aE e];simp only[aw,ab,aa,aE e];rw[i<|c.2 e];rfl
 rw[aM<|λq=>c.1 q e,aJ e];simp only[aA,ae];rw[rE s h,aa,zO (fH s) [] a (FE h) t,aa];dsimp only;by_cases c3:qO (fH s) [] a=0
 rotate_left
 .rw[aQ<|show qO (fH s) [] a≠0 from c3,aE c3];simp only[aw,ab,aa,aE c3];rfl
 rw[aM<|show ¬(qO (fH s) [] a≠0) from λq=>q c3,aJ c3];simp only[aA,ae,aa];rw[NO,aa];by_cases j:(eo (fH s) d).2.1=0
 rotate_left
 .rw[aQ<|show(eo (fH s) d).2.1≠0 from j,aE j];simp only[aw,ab,aa,aE j];rfl
 rw[aM<|show ¬((eo (fH s) d).2.1≠0) from λq=>q j,aJ j];simp only[aA,ae];rw[KT _ _ (by omega) h.ln,aa];dsimp only;have v:(aj (aj (aj (nt<|decide<|bT s b=[]) (aX (bc s.2.2.1<|bT s b).2 0) false) (cu 16<|len (bc s.2.2.1<|bT s b).1) false) (some (((5:Int),()),bT s b,s,()))<|some (((0:Int),()),bT s b,s,())) =
   some (((if bT s b≠[]/\(bc s.2.2.1<|bT s b).2=0/\16<=(bc s.2.2.1<|bT s b).1.length then 5 else 0),()),bT s b,s,()):=by
  have r:cu (16:Int) (len (bc s.2.2.1<|bT s b).1)=decide (16<=(bc s.2.2.1<|bT s b).1.length):=by unfold cu len;apply gi.2;omega
  rw[r,PU];by_cases k:bT s b=[]
  .rw[dI k,aA,ae,ae,ae,aM λq=>q.1 k]
  .rw[cJ k,aw,ab];by_cases l:(bc s.2.2.1<|bT s b).2=0
   .rw[dI l,ab];by_cases m:16<=(bc s.2.2.1<|bT s b).1.length
    .rw[dI m,ab,aQ ⟨k,l,m⟩]
    .rw[cJ m,ae,aM λq=>m q.2.2]
   .rw[cJ l,ae,ae,aM λq=>l q.2.1]
 rw[show(aj (aj (aj (nt<|decide<|bT s b=[]) (aX (bc s.2.2.1<|bT s b).2 0) false) (cu 16<|len (bc s.2.2.1<|bT s b).1) false) (some (((5:Int),()),bT s b,s,()))<|some (((0:Int),()),bT s b,s,()))=_ from v,aa];dsimp only;by_cases n:bT s b≠[]/\(bc s.2.2.1<|bT s b).2=0/\16<=(bc s.2.2.1<|bT s b).1.length
 .rw[aQ n,aQ n];rfl
 rw[aM n,aM n];simp only[o,aA,ae,aa,Bw,ab];rw[KQ,aa,aa];dsimp only;rw[show fits (plus (@len aq [])<|@len aq a)=true from bD (by simp only[eB];omega),ab,abj _ (by rw[ry];decide),aa];dsimp only;rw[show @app aq [] a=a from rfl,show @len UInt8 (lL 1024)=1024 from by unfold len;rw[ry];rfl];rw[show nR (s,((eo (fH s) d).1,bT s b,a,j0<|lL 1024,(1024:Int),(0:Int),true,()),lL 1024,())=some (KP s (ae4 (eo (fH s) d).1 (bT s b) a)<|lL 1024,()) from Tj s (ae4 _ _ a) (lL 1024) (by omega),aa];rfl
theorem VI(s:aZ)(id:Tx)(c:s.2.2.2.2.1.length<=1000000):∃n,ij (s,id,())=some (n,())/\((∃x∈s.2.2.2.2.1,x.1=id/\x.2.1=n)\/(n=0/\∀x∈s.2.2.2.2.1,x.1≠id)):=by
 unfold ij;dsimp only;rcases Ih (f:=mi (s,id,())) s.2.2.2.2.1 (λy=>decide (y.1=id)) (λq=>(q,(),id,())) c (λi y a d=>by
  unfold mi tg;dsimp only;rw[ak d,ab,ao a,aa,aa,fG,hJ];by_cases q:y.1=id<;>simp[q]) (by unfold mi;dsimp only;rw[ay,ae]) with ⟨i,y,a,e,b⟩|⟨g,b⟩
 .rw[b,aa];dsimp only;rw[show dJ 1 0=false from rfl,ae,aB (by omega),ae,ao a,aa];exact⟨_,rfl,.inl ⟨y,dY a,gM e,rfl⟩⟩
 .rw[b,aa];dsimp only;rw[bO,ab];exact⟨_,rfl,.inr ⟨rfl,λx h=>Ln (g x h)⟩⟩
theorem VJ{f:(Int×Int×ai)×Tx×ai->Option (((Int×Int×ai)×Tx×ai)⊕(Nat×(Int×Int×ai)×Tx×ai))}(l:List yj)(id:Tx)(g:l.length<=1000000)
  (d:∀c i:Int,f ((c,i,()),id,())=aj (aY i<|len l) (af (idx l i) λy=>aj (bt y.2.2.2.1 id) (some<|.inr (1,(i,i,()),id,())) (some<|.inl ((c,aF .i64 i 1,()),id,()))) (some<|.inr (0,(c,i,()),id,()))) :
  af (Loop f (((0:Int),(0:Int),()),id,())) (λe=>aj (dJ e.1 0) (some (false,())) (some (cu (0:Int) e.2.1.1,())))=some (l.any<|λx=>decide (x.2.2.2.1=id),()):=by
 rcases Ih (f:=f) l (λy=>decide (y.2.2.2.1=id)) (λq=>(q,id,())) g (λi y a h=>by
  rw[d,ak h,ab,ao a,aa,fG,hJ];by_cases q:y.2.2.2.1=id<;>simp[q]) (by rw[d,ay,ae]) with ⟨i,y,a,j,b⟩|⟨k,b⟩
 .rw[b,aa,W7 a j];dsimp only;rw[show dJ 1 0=false from rfl,ae,b6 (by omega)]
 .rw[b,aa,abX k];rfl
theorem abZ(s:aZ)(id:Tx)(o:s.1.length<=1000000)(p:s.2.1.length<=1000000)(r:s.2.2.1.length<=1000000):ub (s,id,())=some (D4 s id,()):=by
 unfold ub D4;dsimp only;have li:∀{f:(Int×Int×ai)×Tx×ai->Option (((Int×Int×ai)×Tx×ai)⊕(Nat×(Int×Int×ai)×Tx×ai))},
   (∀c i:Int,f ((c,i,()),id,())=aj (aY i<|len s.2.1) (af (idx s.2.1 i) λy=>aj (bt y.2.2.1 id) (some<|.inr (1,(i,i,()),id,())) (some<|.inl ((c,aF .i64 i 1,()),id,()))) (some<|.inr (0,(c,i,()),id,()))) ->
   (∃(i:Nat),s.2.1.any (λx=>decide (x.2.2.1=id))=true/\Loop f (((0:Int),(0:Int),()),id,())=some (1,((i:Int),(i:Int),()),id,()))\/(s.2.1.any (λx=>decide (x.2.2.1=id))=false/\Loop f (((0:Int),(0:Int),()),id,())=some (0,((0:Int),(s.2.1.length:Int),()),id,())):=λ{f} l=>by
  rcases Ih (f:=f) s.2.1 (λy=>decide (y.2.2.1=id)) (λq=>(q,id,())) p (λi y a g=>by
   rw[l,ak g,ab,ao a,aa,fG,hJ];by_cases q:y.2.2.1=id<;>simp[q]) (by rw[l,ay,ae]) with ⟨i,y,a,h,b⟩|⟨j,b⟩
  .exact .inl ⟨i,W7 a h,b⟩
  .exact .inr ⟨abX j,b⟩
 have m:cu (0:Int) (-1)=false:=rfl;rcases Ih (f:=oZ (s,id,())) s.2.2.1 (λy=>decide (y.2.1=id)) (λq=>(q,id,())) r (λi y a g=>by
  unfold oZ;dsimp only;rw[ak g,ab,ao a,aa,fG,hJ];by_cases q:y.2.1=id<;>simp[q]) (by unfold oZ;dsimp only;rw[ay,ae]) with ⟨i,y,a,h,b⟩|⟨j,b⟩
 .rw[b,aa,W7 a h];dsimp only;rw[show dJ 1 0=false from rfl,ae,aa];dsimp only;have n:cu (0:Int) (i:Int)=true:=b6 (by omega);rcases li (f:=tf (s,id,())) (λc i=>rfl) with ⟨k,e,d⟩|⟨e,d⟩
  .rw[d,aa];dsimp only;rw[show dJ 1 0=false from rfl,ae,n,aA,ae,aA,ae];rfl
  .rw[d,aa];dsimp only;rw[bO,ab,n,aA,ae,aA,ae];rfl
 .rw[b,aa,abX j];dsimp only;rw[bO,ab,aa];dsimp only;rcases li (f:=tf (s,id,())) (λc i=>rfl) with ⟨k,e,d⟩|⟨e,d⟩
  .rw[d,aa,e];dsimp only;have t:cu (0:Int) (k:Int)=true:=b6 (by omega);rw[show dJ 1 0=false from rfl,ae,m,aw,ab,t,aA,ae];rfl
  .rw[d,aa,e];dsimp only;rw[bO,ab,m,aw,ab,aw,ab];exact VJ (f:=y7 (s,id,())) s.1 id o (λc i=>rfl)
def P7(s:aZ)(id:Tx):ax×Tx×Bool×ai:=match BQ s.2.2.1 id with
 | none=>(([],[],[],[],(0:Int),(0:Int),false,()),[],false,())
 | some i=>match s.2.2.1[i]? with
   | none=>(([],[],[],[],(0:Int),(0:Int),false,()),[],false,())
   | some x=>(x,(s.2.2.2.1[i]?).getD [],true,())
theorem ixL{f:(Int×Int×ai)×ai×Tx×ai->Option (((Int×Int×ai)×ai×Tx×ai)⊕(Nat×(Int×Int×ai)×ai×Tx×ai))}(a:List ax)(id:Tx)(o:a.length<=1000000)
  (e:∀c i:Int,f ((c,i,()),(),id,())=aj (aY i<|len a) (af (idx a i) λy=>aj (bt y.1 id) (some<|.inr (1,(i,i,()),(),id,())) (some<|.inl ((c,aF .i64 i 1,()),(),id,()))) (some<|.inr (0,(c,i,()),(),id,()))) :
  af (Loop f (((0:Int),(0:Int),()),(),id,())) (λb=>aj (dJ b.1 0) (some (((-1:Int),()),(),b.2.2.2.1,())) (some ((b.2.1.1,()),(),b.2.2.2.1,())))=some ((yw a id,()),(),id,()):=by
 rcases ko (f:=f) a (λj=>(((0:Int),j,()),(),id,())) (λ_ y=>decide (y.1=id)) (λi _=>(1,((i:Int),(i:Int),()),(),id,())) (0,((0:Int),(a.length:Int),()),(),id,()) (by omega) (λi y d g k=>by
  rw[e,ak g,ab,ao d,aa,fG,hJ,k];by_cases q:y.1=id<;>simp[q]) (by rw[e,ay,ae]) with ⟨i,y,d,l,m,h⟩|⟨n,h⟩
 .rw[h,aa];unfold yw;rw[KB d (gM l) m];rfl
 .rw[h,aa];unfold yw;rw[D1 n];rfl
theorem Tl(s:aZ)(id:Tx)(e:s.2.2.1.length<=100000)(b:∀x∈s.2.2.1,pg x.2.2.1):lN (s,id,())=some (P7 s id):=by
 unfold lN P7;dsimp only;rw[ixL (f:=xF (s,id,())) s.2.2.1 id (by omega)<|λc i=>rfl,aa];unfold yw;cases h:BQ s.2.2.1 id with
 | none=>rfl
 | some i =>
   obtain⟨x,a,_⟩:=Ai h;have hi:=aD a;dsimp only;rw[aB<|by omega,ae,ao a,aa,a];have d:=b x (dY a);rw[uR x.2.2.1 (by have:=d.1;omega),aa,FJ s (by omega),aa];dsimp only;rw[ao<|adE hi,aa]
def KU(s:aZ)(id:Tx)(n:Int):aZ:=(s.1,(s.2.1,(s.2.2.1,(s.2.2.2.1,((if 0<n then oE (·.1) (Ml (·.1) s.2.2.2.2.1 id) (id,n,()) else Ml (·.1) s.2.2.2.2.1 id),s.2.2.2.2.2)))))
theorem aiF(l:List du)(id:Tx)(n:Int)(p:l.length<=100000)(b:∀x∈l,x.1≠id){f:(Int×Int×ai)×Tx×ai->Option (((Int×Int×ai)×Tx×ai)⊕(Nat×(Int×Int×ai)×Tx×ai))}
  (k:∀c i:Int,f ((c,i,()),id,())=aj (aY i<|len l) (af (idx l i) λy=>aj (nt<|Zk (iu y.1 id)<|bt y.1 id) (some<|.inr (1,(i,i,()),id,())) (some<|.inl ((c,aF .i64 i 1,()),id,()))) (some<|.inr (0,(c,i,()),id,()))) :
  af (Loop f (((0:Int),(0:Int),()),id,())) (λa=>aj (dJ a.1 0) (af (bE (l,(((@len du l,()),()).1).1,(a.2.2.1,n,()),())) λd=>some ((d.1,()),a.2.2.1,()))
   (af (bE (l,((aj (aY a.2.1.1 (0:Int)) ((@len du l,()),()) ((a.2.1.1,()),())).1).1,(a.2.2.1,n,()),())) λd=>some ((d.1,()),a.2.2.1,())))=some ((oE (·.1) l (id,n,()),()),id,()):=by
 have m:∀x:du,x.1=id->bE (l,((dx (λy:du=>y.1) l id:Nat):Int),x,())=some (oE (·.1) l x,()):=by
  intro x o;unfold bE;dsimp only;rw[ja<|by omega,ab];have:=KG (λy:du=>y.1) l x (by omega);rw[o] at this;exact ob this rfl
 have h:=KH (f:=f) (λy:du=>y.1) l id (by omega) (λi=>(((0:Int),i,()),id,())) (λi=>(1,((i:Int),(i:Int),()),id,())) (0,((0:Int),(l.length:Int),()),id,()) (λi y g=>by
  have hi:=aD g;have j:=b y (dY g);rw[k,ak hi,ab,ao g,aa,UW,aL (by omega)];rcases AR y.1 id with q|q|q
  .rw[q,pD q];rfl
  .exact absurd q j
  .rw[q,pD q];rfl) (by rw[k,ay,ae])
 have r:=uq (λy:du=>y.1) l id;rw[h,aa];by_cases q:dx (λy:du=>y.1) l id<l.length
 .rw[aQ q];dsimp only;rw[show dJ 1 0=false from rfl,ae,aB (by omega),ae];refine ob (m (id,n,()) rfl) rfl
 .rw[aM q];dsimp only;rw[show dJ 0 0=true from rfl,ab];have e:(@len du l)=((dx (λy:du=>y.1) l id:Nat):Int):=by unfold len;omega
  rw[e];refine ob (m (id,n,()) rfl) rfl
theorem An(s:aZ)(id:Tx)(n:Int)(o:s.2.2.2.2.1.length<=50000):oG (s,id,n,())=some (KU s id n,()):=by
 obtain⟨F,G,H,I,a,u⟩:=s;dsimp only at o;have go:∀l:List du,l.length<=100000->(∀x∈l,x.1≠id)->∀{f:(Int×Int×ai)×Tx×ai->Option (((Int×Int×ai)×Tx×ai)⊕(Nat×(Int×Int×ai)×Tx×ai))},
   (∀c i:Int,f ((c,i,()),id,())=aj (aY i<|len l) (af (idx l i) λy=>aj (nt<|Zk (iu y.1 id)<|bt y.1 id) (some<|.inr (1,(i,i,()),id,())) (some<|.inl ((c,aF .i64 i 1,()),id,()))) (some<|.inr (0,(c,i,()),id,()))) ->
   aj (aY 0 n) (af (Loop f (((0:Int),(0:Int),()),id,())) λe=>aj (dJ e.1 0) (af (bE (l,(((@len du l,()),()).1).1,(e.2.2.1,n,()),())) λp=>some ((p.1,()),e.2.2.1,()))
    (af (bE (l,((aj (aY e.2.1.1 (0:Int)) ((@len du l,()),()) ((e.2.1.1,()),())).1).1,(e.2.2.1,n,()),())) λp=>some ((p.1,()),e.2.2.1,()))) (some ((l,()),id,())) =
    some (((if 0<n then oE (·.1) l (id,n,()) else l),()),id,()):=by
  intro l o b f K;by_cases q:0<n
  .rw[aK q,ab,aQ q];exact aiF l id n o b K
  .rw[aB<|by omega,ae,aM q]
 unfold oG KU;dsimp only;rw[ja<|by omega,ab];rcases ko (f:=nS ((F,G,H,I,a,u),id,n,())) a (λj=>(((0:Int),j,()),id,())) (λ_ y=>decide (y.1=id)) (λi _=>(1,((i:Int),(i:Int),()),id,())) (0,((0:Int),(a.length:Int),()),id,()) (by omega) (λi y g k r=>by
  unfold nS;dsimp only;rw[ak k,ab,aW (by omega) (by unfold len;omega),ab,ao g,aa,fG,hJ,r];by_cases q:y.1=id<;>simp[q]) (by unfold nS;dsimp only;rw[ay,ae]) with ⟨i,y,g,M,t,h⟩|⟨N,h⟩
 rotate_left
 .have b:∀x∈a,x.1≠id:=λx m=>by
   obtain⟨i,k⟩:=bp.1 m;exact Ln (N i x k)
  rw[Tf _ b];refine ob h ?_;dsimp only;rw[show dJ 0 0=true from rfl,ab];exact ob (go a (by omega) b (f:=xG ((F,G,H,I,a,u),id,n,())) λc i=>rfl) rfl
 have k:=aD g;have v:y.1=id:=gM M;refine ob h ?_;dsimp only;rw[show dJ 1 0=false from rfl,ae,aE (by omega),ae];have A:a.take i=(a.take<|i+1).filter (λx=>!decide (x.1=id)):=by
  rw[Be,g,Iv];have B:(a.take i).filter (λx=>!decide (x.1=id))=a.take i:=Ew.2 λz C=>by
   obtain⟨j,d⟩:=bp.1 C;rw[fi] at d;split at d
   .have:=t j z (by omega) d;rw[this];rfl
   .cases d
  rw[B];simp[v]
 obtain⟨w,L,B,R,S,O⟩:=DZ (f:=nT) a (λx=>decide (x.1=id)) (λw j L=>((w,j,(),()),id,L,())) (λw L=>((w,(L.length:Int),(),()),id,L,())) (by omega) (λw j L x m D T t r P=>by
  unfold nT;dsimp only;have E:w<L.length:=by omega
  obtain⟨z,C⟩:∃z,L[w]?=some z:=⟨_,fN E⟩;rw[ak t,ab,aW (by omega) (by unfold len;omega),ab,ao D,aa,fG,P];cases decide (x.1=id) with
  | true=>rfl
  | false =>
    rw[aw,ab,aW (by omega) (by unfold len;omega),ab,ao C,aa,aa,aa,aa,r,gm];rfl) (λw L=>by
  unfold nT;dsimp only;rw[ay,ae];rfl) a.length i (i+1) a (by omega) (by omega) (by omega) rfl A rfl
 rw[aL<|by omega];refine ob B ?_;dsimp only;have J:L.take w=Ml (λx:du=>x.1) a id:=by
  rw[O];unfold Ml
  congr 1
  funext x;by_cases q:x.1=id<;>simp[q]
 have Q:(Ml (λx:du=>x.1) a id).length<=a.length:=(P2 _ a id).length_le;rw[aR (by omega) (by unfold len;omega)<|re _,ab,D0 L w (by omega),aR (re _) (by omega) (by omega),ab,zZ L w (by omega),J];exact ob (go (Ml (λx:du=>x.1) a id) (by omega) (λx m=>((Ig _).1 m).2)
  (f:=rG (((w:Int),(L.length:Int),(),()),id,L,())) λc i=>by
   unfold rG;dsimp only;rw[zZ L w<|by omega,J]) rfl
theorem ab0{ls:List ax}(d:wK (·.1) ls):∀(n:Nat) (id:Tx) (acc c:List ax),yx ls (n+1) id acc=(acc++c,0)->c.length=n+1->∀a,yx ls n id a=([],5):=by
 intro n;induction n with
 | zero =>
   intro id acc c h f a;by_cases hx:∃x∈ls,x.1=id
   .obtain⟨x,hx,rfl⟩:=hx;exact D3 d hx a
   .rw[vf λx b e=>hx ⟨x,b,e⟩] at h;cases (congrArg Prod.snd h:(3:Int)=0)
 | succ n l =>
   intro id acc c h f a;by_cases hx:∃x∈ls,x.1=id
   .obtain⟨x,hx,rfl⟩:=hx;rw[lq d hx] at h⊢;by_cases g:x.2.1=[]
    .rw[aQ g] at h;have:=congrArg (λz=>List.length z.1) h;simp only[fQ,Lm] at this;omega
    .rw[aM g] at h⊢;obtain⟨i,m,_⟩:=FF d (n+1) x.2.1 (acc++[x]) (by rw[h]);have j:acc++c=acc++[x]++i:=by rw[<-m,h]
     rw[kR] at j;have k:=List.append_cancel_left j;refine l x.2.1 (acc++[x]) i ?_ (by rw[k] at f;simpa using f) _;rw[h,k];simp
   .rw[vf λx b e=>hx ⟨x,b,e⟩] at h;cases (congrArg Prod.snd h:(3:Int)=0)
def Ao(ls:List ax)(a:List Tx)(p:Tx):List Nd:=if p=[] then [] else(cT ls a p).1
theorem VK{a f:List ax}{h j:List Tx}{x:ax}{d:Tx}(u:a.length=h.length)(G:wK (·.1) (a++f))(g:wK (·.1) (a++[x]++f))(O:td (a++f) (h++j))
  (i:∀y∈a++f,y.1≠x.1) (v:x.2.1=[]\/(cT (a++f) (h++j) x.2.1).2=0) :
  let t:=cT (a++[x]++f) (h++[d]++j) x.1
  let r:=eI (Ao (a++f) (h++j) x.2.1) d
  t=r\/t=([],5):=by
 intro t r;have hlen:(h++j).length=(a++f).length:=O.same;have m:(h++[d]++j).length=(a++[x]++f).length:=by
  simp only[fQ,Lm] at hlen⊢;omega
 have w:∀(y:ax) (e:Tx),y.1≠x.1->(Ti (a++[x]++f) (h++[d]++j) y e↔Ti (a++f) (h++j) y e):=λy e k=>by
  rw[A7 u];constructor
  .rintro(q|q)
   .exact absurd (congrArg (·.1) q.1) k
   .exact q
  .exact .inr
 have H:∀y∈a++f,y.2.1=[]\/y.2.1≠x.1:=λy k=>by
  rcases Oe G k (O.chain y k) with q|⟨z,F,q⟩
  .exact .inl q
  .exact .inr λe=>i z F (q.trans e)
 have n:x∈a++[x]++f:=by simp
 have A:rD (a++[x]++f) (h++[d]++j) x.1=d:=vX g ((A7 u).2<|.inl ⟨rfl,rfl⟩);have l:∀b:List Nd,Valid b->(if(eI b d).2=0 then((eI b d).1,(0:Int)) else([],(eI b d).2))=eI b d:=λb S=>by
  rcases xD S d with ⟨q,_,_⟩|⟨q,T⟩
  .rw[aQ q];exact IB rfl q.symm
  .rw[aM q];exact IB T.symm rfl
 by_cases s:x.2.1=[]
 .left;have B:bc (a++[x]++f) x.1=([x],0):=by
   unfold bc;rw[lq g n,aQ s];rfl
  show cT _ _ _=eI (Ao _ _ _) d
  unfold cT Ao;rw[B,aQ rfl,aQ s];show qL [rD (a++[x]++f) (h++[d]++j) x.1] []=_
  rw[A,<-l [] FH];unfold qL;by_cases q:(eI [] d).2=0
  .rw[aQ q,aQ q];rfl
  .rw[aM q,aM q]
 have I:=v.resolve_left s;obtain⟨o,J⟩:=KM I;obtain⟨y,k,K⟩:∃y∈a++f,y.1=x.2.1:=by
  apply Ev;intro q;unfold bc at o;rw[vf λy k e=>q ⟨y,k,e⟩] at o;cases o
 have L:x.2.1≠x.1:=by rw[<-K];exact i y k
 obtain⟨M,V⟩:=FG G g hlen m w H (.inl i) L;obtain⟨c,P,U⟩:=FF g 16 x.2.1 [] (by have:=M;unfold bc at this o;rw[this];exact o);have p:(bc (a++f) x.2.1).1=c:=by rw[<-M];exact P
 have Q:c.length<=16:=by rw[<-p];exact rC.2
 by_cases N:c.length=16
 .right;have C:=ab0 g 15 x.2.1 [] c (by rw[sW];exact IB P (by have:=M;unfold bc at this o;rw[this];exact o)) N [x];have B:bc (a++[x]++f) x.1=([],5):=by
   unfold bc;rw[lq g n,aM s];exact C
  show cT _ _ _=_
  unfold cT;rw[B];rfl
 .left;have B:bc (a++[x]++f) x.1=(x::c,0):=by
   unfold bc;rw[lq g n,aM s,U 15 _ (by omega)];rfl
  show cT _ _ _=eI (Ao _ _ _) d
  have hv:=KO I;unfold Ao;rw[aM s,<-l _ hv]
  conv=>lhs;unfold cT
  rw[B,aQ rfl];rw[show(x::c,(0:Int)).1=x::c from rfl,List.reverse_cons,xO,List.map_singleton,A];have D:(c.reverse.map λz=>rD (a++[x]++f) (h++[d]++j) z.1)=(c.reverse.map λz=>rD (a++f) (h++j) z.1):=by
   apply Il;intro z F;rw[QO] at F;have E:z∈a++f:=(rC (ls:=a++f) (id:=x.2.1)).1 z (by rw[p];exact F);obtain⟨e,R⟩:=vW hlen E;rw[vX G R,vX g ((w z e<|i z E).2 R)]
  rw[p] at J;rw[D,N5 _ d [] (cT (a++f) (h++j) x.2.1).1 (IB (by rw[J])<|by rw[<-J];exact I)]
instance (s:Tx):Decidable (l4 s):=by unfold l4;infer_instance
theorem VL(s:Tx):gh (s,())=some ((if l4 s then 0 else 10),()):=by
 obtain⟨a,b⟩:=Ia s;rw[YT a b];rfl
def A9(s:aZ)(p:Tx):List Nd×Int:=if p=[] then([],0) else cT s.2.2.1 s.2.2.2.1 p
theorem FK{s:aZ}{p:Tx}(h:(A9 s p).2=0):Valid (A9 s p).1:=by
 unfold A9 at h⊢;by_cases q:p=[]
 .rw[aQ q];exact FH
 .rw[aM q] at h⊢;exact KO h
def ti(d:Tx):Tx:=if d=[] then lL 1024 else d
def Y7(id a:Tx)(b:List Tx)(d:Tx):ax:=(id,a,b,j0<|ti d,((ti d).length:Int),0,true,())
def crS(s:aZ)(b:Tx)(a:List Tx)(c:Tx)(d:Int):aZ×P3×ai :=
 if lX a≠0 then(s,ua<|lX a,()) else
 if c≠[]/\¬l4 c then(s,ua 10,()) else
 if b≠[]/\(cq (fH s) b).2.1≠0 then(s,ua (cq (fH s) b).2.1,()) else
 if qO (fH s) [] a≠0 then(s,ua<|qO (fH s) [] a,()) else
 if(eo (fH s) d).2.1≠0 then(s,ua (eo (fH s) d).2.1,()) else
 if bT s b≠[]/\(bc s.2.2.1<|bT s b).2=0/\16<=(bc s.2.2.1<|bT s b).1.length then(s,ua 5,()) else
 if c≠[]/\(A9 s<|bT s b).2≠0 then(s,ua (A9 s<|bT s b).2,()) else
 if c≠[]/\(eI (A9 s<|bT s b).1 c).2≠0 then(s,ua (eI (A9 s<|bT s b).1 c).2,()) else
 (KP s (Y7 (eo (fH s) d).1 (bT s b) a c)<|ti c,GI (eo (fH s) d).1,())
theorem Hy(s:aZ)(a:Tx)(b:List Tx)(c:Tx)(d:Int)(h:W3 s)(H:b.length<=4294967296)(A:c.length<=8192)
  (I:∀p,nQ (s,p,())=some ((cT s.2.2.1 s.2.2.2.1 p).1,(cT s.2.2.1 s.2.2.2.1 p).2,())) :
  cB (s,a,b,c,d,())=some (crS s a b c d):=by
 have J:=h.ll;have u:aX (0:Int) 0=true:=rfl;have es:bt ([]:aq) ([]:aq)=true:=rfl;unfold cB;dsimp only;rw[vG b H,aa];unfold crS;dsimp only;by_cases o:lX b=0
 rotate_left
 .rw[aQ o,aE o];simp only[aw,ab,aa,aE o];rfl
 rw[aM<|λq=>q o,aJ o];simp only[aA,ae];rw[fG c []];have B:(aj (decide<|c=[]) (some (((0:Int),()),c,()))<|af (gh (c,())) λC=>some ((C.1,()),c,()))=some (((if c≠[]/\¬l4 c then 10 else 0),()),c,()):=by
  by_cases q:c=[]
  .rw[dI q,ab,aM λk=>k.1 q]
  .rw[cJ q,ae,VL,aa];by_cases g:l4 c
   .rw[aQ g,aM λk=>k.2 g]
   .rw[aM g,aQ ⟨q,g⟩]
 rw[show(aj (decide<|c=[]) (some (((0:Int),()),c,()))<|af (gh (c,())) λC=>some ((C.1,()),c,()))=_ from B,aa];dsimp only;by_cases v:c≠[]/\¬l4 c
 .rw[aQ v,aQ v];rw[show aX (10:Int) 0=false from rfl];simp only[aw,ab,aa,show aX (10:Int) 0=false from rfl];rfl
 rw[aM v,aM v];simp only[aA,ae,u,fG a];have E:(aj (nt<|decide<|a=[]) (af (cY (s,a,())) λi=>some ((i.2.1,()),i.1,()))<|some (((0:Int),()),([]:Tx),())) =
   some (((if a=[] then 0 else(cq (fH s) a).2.1),()),bT s a,()):=by
  unfold bT;by_cases q:a=[]
  .rw[dI q,aA,ae,aQ q,aQ q]
  .rw[cJ q,aw,ab,iS s a h,aa,aM q,aM q]
 rw[show(aj (nt<|decide<|a=[]) (af (cY (s,a,())) λi=>some ((i.2.1,()),i.1,()))<|some (((0:Int),()),([]:aq),()))=_ from E,aa];dsimp only;have j:(a≠[]/\(cq (fH s) a).2.1≠0)↔¬((if a=[] then 0 else(cq (fH s) a).2.1)=0):=by
  by_cases q:a=[]
  .simp[q]
  .simp[q]
 have r:(a≠[]/\(cq (fH s) a).2.1≠0)->(if a=[] then 0 else(cq (fH s) a).2.1)=(cq (fH s) a).2.1:=λq=>aM q.1;by_cases l:(if a=[] then 0 else(cq (fH s) a).2.1)=0
 rotate_left
 .rw[aQ<|j.2 l,aE l];simp only[aw,ab,aa,aE l];rw[r<|j.2 l];rfl
 rw[aM<|λq=>j.1 q l,aJ l];simp only[aA,ae];rw[rE s h,aa,zO (fH s) [] b (FE h) H,aa];dsimp only;by_cases c3:qO (fH s) [] b=0
 rotate_left
 .rw[aQ<|show qO (fH s) [] b≠0 from c3,aE c3];simp only[aw,ab,aa,aE c3];rfl
 rw[aM<|show ¬(qO (fH s) [] b≠0) from λq=>q c3,aJ c3];simp only[aA,ae,aa];rw[NO,aa];by_cases t:(eo (fH s) d).2.1=0
 rotate_left
 .rw[aQ<|show(eo (fH s) d).2.1≠0 from t,aE t];simp only[aw,ab,aa,aE t];rfl
 rw[aM<|show ¬((eo (fH s) d).2.1≠0) from λq=>q t,aJ t];simp only[aA,ae];rw[KT _ _ (by omega) h.ln,aa];dsimp only;rw[fG (bT s a) []];have K:(aj (aj (aj (nt<|decide<|bT s a=[]) (aX (bc s.2.2.1<|bT s a).2 0) false) (cu 16<|len (bc s.2.2.1<|bT s a).1) false) (some (((5:Int),()),bT s a,s,()))<|some (((0:Int),()),bT s a,s,())) =
   some (((if bT s a≠[]/\(bc s.2.2.1<|bT s a).2=0/\16<=(bc s.2.2.1<|bT s a).1.length then 5 else 0),()),bT s a,s,()):=by
  have F:cu (16:Int) (len (bc s.2.2.1<|bT s a).1)=decide (16<=(bc s.2.2.1<|bT s a).1.length):=by unfold cu len;apply gi.2;omega
  rw[F,PU];by_cases w:bT s a=[]
  .rw[dI w,aA,ae,ae,ae,aM λq=>q.1 w]
  .rw[cJ w,aw,ab];by_cases g:(bc s.2.2.1<|bT s a).2=0
   .rw[dI g,ab];by_cases x:16<=(bc s.2.2.1<|bT s a).1.length
    .rw[dI x,ab,aQ ⟨w,g,x⟩]
    .rw[cJ x,ae,aM λq=>x q.2.2]
   .rw[cJ g,ae,ae,aM λq=>g q.2.1]
 rw[show(aj (aj (aj (nt<|decide<|bT s a=[]) (aX (bc s.2.2.1<|bT s a).2 0) false) (cu 16<|len (bc s.2.2.1<|bT s a).1) false) (some (((5:Int),()),bT s a,s,()))<|some (((0:Int),()),bT s a,s,()))=_ from K,aa];dsimp only;by_cases y:bT s a≠[]/\(bc s.2.2.1<|bT s a).2=0/\16<=(bc s.2.2.1<|bT s a).1.length
 .rw[aQ y,aQ y];rfl
 rw[aM y,aM y];simp only[u,aA,ae];have G:qz (s,bT s a,())=some ((A9 s<|bT s a).1,(A9 s<|bT s a).2,()):=by
  unfold qz A9;dsimp only;by_cases q:bT s a=[]
  .rw[ch q,ab,aQ q]
  .rw[bj q,ae,aM q,I,aa]
 have fin:∀D:Tx,D.length<=8192->∀(f:(aZ×ai)->Option (aZ×P3×ai)),
   af (sF (D,())) (λi=>af (nR (s,((eo (fH s) d).1,bT s a,@app Tx [] b,i.1,@len UInt8 D,(0:Int),true,()),D,())) f) =
    f (KP s ((eo (fH s) d).1,bT s a,b,j0 D,(D.length:Int),(0:Int),true,()) D,()):=by
  intro D L f;refine ob (abj D<|by omega) ?_;refine ob (Tj s ((eo (fH s) d).1,bT s a,b,j0 D,(D.length:Int),(0:Int),true,()) D<|by omega) rfl
 have e:fits (plus (@len Tx [])<|@len Tx b)=true:=bD (by simp only[eB];omega);by_cases m:c=[]
 .subst m;rw[es,ab,aa];rw[aM<|λq=>q.1 rfl,aM λq=>q.1 rfl];dsimp only;simp only[u,aA,ae,aa];rw[es,ab,KQ,aa,aa];dsimp only;rw[e,ab,fin (lL 1024) (by rw[ry];decide)];rfl
 rw[bj m,ae,G,aa];dsimp only;by_cases n:(A9 s<|bT s a).2=0
 rotate_left
 .rw[aQ ⟨m,n⟩,aE n,ae,aa,aa];dsimp only;simp only[aE n,aw,ab,aa];rfl
 rw[aM<|λq=>q.2 n,aJ n,ab,N4 (FK n),aa,aa,aa];dsimp only;by_cases z:(eI (A9 s<|bT s a).1 c).2=0
 rotate_left
 .rw[aQ ⟨m,z⟩];simp only[aE z,aw,ab,aa];rfl
 rw[aM λq=>q.2 z];simp only[aJ z,u,aA,ae,aa];rw[bj m,ae,aa];dsimp only;rw[e,ab,fin c A];unfold Y7 ti;rw[aM m];rfl
theorem adG{s:aZ}(h:Aj s)(x:ax)(d:Tx):KP s x d=sS s x d:=by
 unfold KP sS;rw[Xb h.lays.same]
structure agq (s:aZ) (on:Tx) (given:List Tx) (df:Tx) (r:aZ×P3×ai):Prop where
 id:CA r.2.1.2.1
 new:∀y∈s.2.2.1,y.1≠r.2.1.2.1
 nms:∀y∈s.2.2.1,∀n∈y.2.2.1,n∉given
 par:bT s on=[]\/∃y∈s.2.2.1,y.1=bT s on
 find:on≠[]->(cq (fH s) on).2.1=0
 app:df≠[]->(eI (A9 s<|bT s on).1 df).2=0
 val:r=(sS s (Y7 r.2.1.2.1 (bT s on) given df)<|ti df,GI r.2.1.2.1,())
 okl:OkL (Y7 r.2.1.2.1 (bT s on) given df)
theorem P8{s:aZ}(a:Aj s){y:ax}(b:y∈s.2.2.1):((y.1,y.2.2.1,()):Nm)∈fH s:=by
 obtain⟨e,i,c,d⟩:=vW a.lays.same b;have hd:=(a.lays.each i y e c d).1;unfold fH;rw[Iw];refine⟨y,b,?_⟩;unfold Zm;simp[hd]
theorem adH{s:aZ}(d:Aj s):(fH s).length=s.2.2.1.length:=by
 have b:∀y∈s.2.2.1,y.2.2.2.2.2.2.1=true:=λy c=>by
  obtain⟨e,i,g,h⟩:=vW d.lays.same c;exact(d.lays.each i y e g h).1
 unfold fH;have:∀l:List ax,(∀y∈l,y.2.2.2.2.2.2.1=true)->(l.flatMap Zm).length=l.length:=by
  intro l;induction l with
  | nil=>intro _;rfl
  | cons a r j =>
    intro f;rw[FX,fQ,j λy c=>f y (by simp[c])];have:=f a (by simp);simp[Zm,this];omega
 exact this _ b
theorem Y8{s:aZ}(W:Ib s)(t:Aj s)(f:Tx)(b:List Tx)(i:Tx)(d:Int)(X:pg b)(H:i.length<=8192) :
  let r:=crS s f b i d
  Aj r.1/\Ib r.1/\(r.2.1.1≠0->r=(s,ua r.2.1.1,()))/\(r.2.1.1=0->agq s f b i r):=by
 intro r;have g:r=crS s f b i d:=rfl;unfold crS at g;have bad:∀e:Int,e≠0->r=(s,ua e,())->Aj r.1/\Ib r.1/\(r.2.1.1≠0->r=(s,ua r.2.1.1,()))/\(r.2.1.1=0->agq s f b i r):=by
  intro e o h;rw[h];exact⟨t,W,λ_=>rfl,λq=>absurd q o⟩
 by_cases I:lX b≠0
 .rw[aQ I] at g;exact bad _ I g
 rw[aM I] at g;by_cases J:i≠[]/\¬l4 i
 .rw[aQ J] at g;exact bad _ (by decide) g
 rw[aM J] at g;by_cases F:f≠[]/\(cq (fH s) f).2.1≠0
 .rw[aQ F] at g;exact bad _ F.2 g
 rw[aM F] at g;by_cases c3:qO (fH s) [] b≠0
 .rw[aQ c3] at g;exact bad _ c3 g
 rw[aM c3] at g;by_cases C:(eo (fH s) d).2.1≠0
 .rw[aQ C] at g;exact bad _ C g
 rw[aM C] at g;by_cases K:bT s f≠[]/\(bc s.2.2.1<|bT s f).2=0/\16<=(bc s.2.2.1<|bT s f).1.length
 .rw[aQ K] at g;exact bad _ (by decide) g
 rw[aM K] at g;by_cases L:i≠[]/\(A9 s<|bT s f).2≠0
 .rw[aQ L] at g;exact bad _ L.2 g
 rw[aM L] at g;by_cases G:i≠[]/\(eI (A9 s<|bT s f).1 i).2≠0
 .rw[aQ G] at g;exact bad _ G.2 g
 rw[aM G] at g;have c3:qO (fH s) [] b=0:=Ev c3;have C:(eo (fH s) d).2.1=0:=Ev C;have z:i≠[]->(eI (A9 s<|bT s f).1 i).2=0:=λh=>Ev λq=>G ⟨h,q⟩;have u:f≠[]->(cq (fH s) f).2.1=0:=λh=>Ev λq=>F ⟨h,q⟩;have M:i≠[]->l4 i:=λh=>Ev λq=>J ⟨h,q⟩;obtain⟨N,D,Y⟩:=abu C;rw[adH t] at N;obtain⟨Z,f2⟩:=adz c3 (λy m=>by
  obtain⟨x,O,rfl⟩:=yz m;intro o;have:=(t.l.ll x O).id;rw[show x.1=[] from o] at this;exact pr this)
 have E:∀y∈s.2.2.1,∀n∈y.2.2.1,n∉b:=λy m n hn=>f2 _ (P8 t m) n hn;have p:∀y∈s.2.2.1,y.1≠(eo (fH s) d).1:=λy m=>Y _ (P8 t m);have j:bT s f=[]\/∃y∈s.2.2.1,y.1=bT s f:=by
  unfold bT;by_cases c:f=[]
  .rw[aQ c];exact .inl rfl
  .rw[aM c];right;obtain⟨y,m,o⟩:=A4 (u c);obtain⟨x,O,rfl⟩:=yz m;exact⟨x,O,o⟩
 rw[adG t] at g;have v:r.2.1.2.1=(eo (fH s) d).1:=by rw[g];rfl
 generalize (eo (fH s) d).1=id at g D p v;have P:bT s f≠id:=by
  rcases j with q|⟨y,m,o⟩
  .rw[q];intro k;rw[<-k] at D;exact pr D
  .rw[<-o];exact p y m
 have A:bT s f=[]\/CA (bT s f):=by
  rcases j with q|⟨y,m,o⟩
  .exact .inl q
  .exact .inr (o▸(t.l.ll y m).id)
 have w:∀{a:Tx},CA a->a.length<=1048576:=λ{a} h=>by have:=h.2;omega
 have Q:(ti i).length<=8192:=by
  unfold ti;by_cases k:i=[]
  .rw[aQ k,ry];decide
  .rw[aM k];exact H
 have R:l4 (ti i):=by
  unfold ti;by_cases k:i=[]
  .rw[aQ k];exact Y5
  .rw[aM k];exact M k
 have S:(j0<|ti i).length=71:=Gx _;have B:OkL (Y7 id (bT s f) b i):=⟨D,A.elim .inl λq=>.inr ⟨q,P⟩,Z,Va _,(show(0:Int)<=((ti i).length:Int) by omega),(show((ti i).length:Int)<=8192 by omega),(show(0:Int)<=0 by decide),(show(0:Int)<=32 by decide)⟩;have T:bT s f=[]\/((bc s.2.2.1<|bT s f).2=0/\(bc s.2.2.1<|bT s f).1.length<16):=by
  rcases j with q|⟨y,m,o⟩
  .exact .inl q
  .right;have U:=(t.KN m).1;rw[o] at U;refine⟨U,QL λk=>K ⟨?_,U,k⟩⟩;intro e;have:=(t.l.ll y m).id;rw[o,e] at this;exact pr this
 have V:(eI (if bT s f=[] then [] else(cT s.2.2.1 s.2.2.2.1<|bT s f).1)<|ti i).2=0:=by
  have e:(if bT s f=[] then [] else(cT s.2.2.1 s.2.2.2.1<|bT s f).1)=(A9 s<|bT s f).1:=by
   unfold A9;by_cases k:bT s f=[]
   .rw[aQ k,aQ k]
   .rw[aM k,aM k]
  have hv:Valid (A9 s<|bT s f).1:=by
   apply FK;unfold A9;by_cases k:bT s f=[]
   .rw[aQ k]
   .rw[aM k];rcases j with q|⟨y,m,o⟩
    .exact absurd q k
    .rw[<-o];exact(t.KN m).2
  rw[e];unfold ti;by_cases k:i=[]
  .rw[aQ k,W6 hv]
  .rw[aM k];exact z k
 refine⟨?_,?_,λq=>?_,λ_=>⟨by rw[v];exact D,by rw[v];exact p,E,j,u,z,by rw[v];exact g,by rw[v];exact B⟩⟩
 .rw[g];exact t.more B N p E T ⟨rfl,rfl,rfl,rfl,R⟩ V
 .rw[g];refine W.more ⟨w D,?_,X,by show(j0<|ti i).length<=_;rw[S];decide⟩ N Q;rcases A with q|q
  .show(bT s f).length<=_;rw[q];simp
  .exact w q
 .rw[g] at q;exact absurd rfl q
def VM(s:aZ)(id:Tx):aZ:=match BQ s.2.2.1 id with
 | none=>KU (s.1,s.2.1,s.2.2.1,Bk s.2.2.1.length s.2.2.2.1,s.2.2.2.2) id 0
 | some i=>KU (s.1,s.2.1,cutAt s.2.2.1 i,cutAt (Bk s.2.2.1.length s.2.2.2.1) i,s.2.2.2.2) id 0
theorem Mn(s:aZ)(id:Tx)(d:s.2.2.1.length<=100000)(a:s.2.2.2.2.1.length<=50000):pa (s,id,())=some (VM s id,()):=by
 unfold pa VM;dsimp only;rw[ixL (f:=vh (s,id,())) s.2.2.1 id (by omega)<|λc i=>rfl,aa,FJ s (by omega),aa];unfold yw;cases h:BQ s.2.2.1 id with
 | none =>
   dsimp only;unfold gH fl;dsimp only;rw[aK<|by omega,ab,aa,ab,aa];exact ob (An (s.1,s.2.1,s.2.2.1,Bk s.2.2.1.length s.2.2.2.1,s.2.2.2.2) id 0 a) rfl
 | some i =>
   obtain⟨x,b,_⟩:=Ai h;have hi:=aD b;have e:=D6 s.2.2.1.length s.2.2.2.1;dsimp only;unfold gH fl ej db;dsimp only;rw[aB<|by omega,ae,ae,show @len aq=@len Tx from rfl,ja (by omega),ab,W9 _ i (by omega) (by omega),aa,aa,ja (by omega),ab,W9 _ i (by omega) (by omega),aa,aa];exact ob (An (s.1,s.2.1,cutAt s.2.2.1 i,cutAt (Bk s.2.2.1.length s.2.2.2.1) i,s.2.2.2.2) id 0 a) rfl
theorem Y9(s:aZ)(id:Tx)(h:∀x∈s.2.2.2.2.1,x.1≠id):KU s id 0=s:=by
 unfold KU;rw[aM<|by decide,Tf _ h]
def qB(s:aZ)(id:Tx):Int:=match(ij (s,id,())) with|some (n,_)=>n|none=>0
theorem KV(s:aZ)(id:Tx)(b:s.2.2.2.2.1.length<=1000000):ij (s,id,())=some (qB s id,())/\((∃x∈s.2.2.2.2.1,x.1=id/\x.2.1=qB s id)\/(qB s id=0/\∀x∈s.2.2.2.2.1,x.1≠id)):=by
 obtain⟨n,a,c⟩:=VI s id b;have e:qB s id=n:=by unfold qB;rw[a]
 rw[e];exact⟨a,c⟩
def dlS(s:aZ)(a:Tx):aZ×P3×ai :=
 if(cq (fH s) a).2.1≠0 then(s,ua (cq (fH s) a).2.1,()) else
 if D4 s (cq (fH s) a).1=true\/0<qB s (cq (fH s) a).1 then(s,ua 7,()) else
 (VM s (cq (fH s) a).1,GI (cq (fH s) a).1,())
theorem D7(s:aZ)(a:Tx)(h:W3 s)(b:s.2.2.2.2.1.length<=50000):cF (s,a,())=some (dlS s a):=by
 have d:=h.ll;have e:=h.il;have f:=h.bl;unfold cF dlS;refine ob (iS s a h) ?_;dsimp only;by_cases c:(cq (fH s) a).2.1=0
 rotate_left
 .rw[aE c,aw,ab,aQ c];rfl
 rw[aJ c,aA,ae,aM λq=>q c];refine ob (abZ s _ (by omega) (by omega)<|by omega) ?_;obtain⟨g,_⟩:=KV s (cq (fH s) a).1 (by omega);dsimp only;cases i:D4 s (cq (fH s) a).1 with
 | true =>
   rw[aA,ae,aa,ab,aQ (.inl rfl)];rfl
 | false =>
   rw[aw,ab];refine ob (ob g rfl) ?_;by_cases q:0<qB s (cq (fH s) a).1
   .rw[aK q,ab,aQ (.inr q)];rfl
   .rw[aB<|by omega,ae,aM (by rintro(k|k);cases k;exact q k)];exact ob (Mn s _ (by omega) b) rfl
theorem Aj.P9{s:aZ}(h:Aj s){id:Tx}(b:s.2.2.2.2.1.length<=1000000):(0<=qB s id/\qB s id<=1000)/\(qB s id<=0->∀x∈s.2.2.2.2.1,x.1≠id):=by
 obtain⟨_,c⟩:=KV s id b;rcases c with ⟨x,d,_,e⟩|⟨e,a⟩
 .have:=(h.mts x d).2;rw[<-e];exact⟨⟨by omega,this.2⟩,λq=>by omega⟩
 .rw[e];exact⟨⟨by decide,by decide⟩,λ_=>a⟩
theorem Za{s:aZ}(b:Ib s)(d:Aj s)(a:Tx) :
  let r:=dlS s a
  Aj r.1/\Ib r.1/\(r.2.1.1≠0->r.1=s):=by
 intro r;have c:r=dlS s a:=rfl;unfold dlS at c;by_cases f:(cq (fH s) a).2.1≠0
 .rw[aQ f] at c;rw[c];exact⟨d,b,λ_=>rfl⟩
 rw[aM f] at c;by_cases g:D4 s (cq (fH s) a).1=true\/0<qB s (cq (fH s) a).1
 .rw[aQ g] at c;rw[c];exact⟨d,b,λ_=>rfl⟩
 rw[aM g] at c;have f:(cq (fH s) a).2.1=0:=Ev f;obtain⟨y,k,h⟩:=A4 f;obtain⟨x,n,rfl⟩:=yz k;have h:x.1=(cq (fH s) a).1:=h;rw[<-h] at g c;have o:D4 s x.1=false:=by
  cases q:D4 s x.1 with
  | true=>exact absurd (.inl q) g
  | false=>rfl
 obtain⟨p,t,u⟩:=abY o;have v:=d.VF;have j:=(d.P9 (id:=x.1)<|by omega).2 (by have:=λq=>g (.inr q);omega);obtain⟨i,l⟩:=bp.1 n;have m:VM s x.1=(s.1,s.2.1,cutAt s.2.2.1 i,cutAt s.2.2.2.1 i,s.2.2.2.2):=by
  unfold VM;rw[D2 d.upL l];dsimp only;rw[Xb d.lays.same];exact Y9 (s.1,s.2.1,cutAt s.2.2.1 i,cutAt s.2.2.2.1 i,s.2.2.2.2) x.1 j
 rw[c];refine⟨?_,?_,λq=>absurd rfl q⟩
 .show Aj (VM s x.1)
  rw[m];exact d.less l p t u j
 .show Ib (VM s x.1)
  rw[m];have w:=Y6 s.2.2.1 i;have z:=b.ll;exact⟨by show(cutAt s.2.2.1 i).length<=40;omega,b.il,b.bl,λy k=>b.xl y (Og _ i y k),b.xi,b.xb,λe h=>b.dl e (Og _ i e h),b.ml⟩
def mtS(s:aZ)(a:Tx):aZ×P3×ai :=
 if(cq (fH s) a).2.1≠0 then(s,ua (cq (fH s) a).2.1,()) else
 if 1000<=qB s (cq (fH s) a).1 then(s,ua 5,()) else
 (KU s (cq (fH s) a).1<|qB s (cq (fH s) a).1+1,(0,(cq (fH s) a).1,qB s (cq (fH s) a).1+1,[],()),())
theorem FL(s:aZ)(a:Tx)(h:W3 s)(d:Aj s):ik (s,a,())=some (mtS s a):=by
 have f:=d.VF;obtain⟨e,_⟩:=KV s (cq (fH s) a).1 (by omega);obtain⟨⟨g,i⟩,_⟩:=d.P9 (id:=(cq (fH s) a).1) (by omega);have b:aF .i64 (qB s (cq (fH s) a).1) 1=qB s (cq (fH s) a).1+1:=en (by omega) (by omega);have key:kk (s,a,(1:Int),())=some (mtS s a):=by
  unfold kk mtS;refine ob (iS s a h) ?_;dsimp only;by_cases c:(cq (fH s) a).2.1=0
  rotate_left
  .rw[aE c,aw,ab,aQ c];rfl
  rw[aJ c,aA,ae,aM λq=>q c];refine ob e ?_;dsimp only;rw[show aY (0:Int) 1=true from rfl,ab];by_cases q:1000<=qB s (cq (fH s) a).1
  .rw[b6 q,ab,aQ q];rfl
  .rw[eF<|by omega,ae,aM q,show aY (1:Int) 0=false from rfl,ae,ae,b];exact ob (An s _ _<|by omega) rfl
 unfold ik;refine ob key ?_;rfl
theorem ab1{e:Type}:∀{l m:List e},l.Nodup->(∀x∈l,x∈m)->l.length<=m.length:=by
 intro l;induction l with
 | nil=>intro m _ _;exact nY _
 | cons a r f =>
   intro m g c;obtain⟨p,q,rfl⟩:=List.append_of_mem (c a<|by simp);have b:=zn.1 g;have:=f (m:=p++q) b.2 (λx d=>by
    have:=c x (by simp[d]);simp only[pO,fP] at this⊢;rcases this with h|rfl|h
    .exact .inl h
    .exact absurd d b.1
    .exact .inr h)
   simp only[fQ,dd] at this⊢;omega
theorem Zb{s:aZ}(d:Ib s)(a:Aj s)(c:Tx) :
  let r:=mtS s c
  Aj r.1/\Ib r.1/\(r.2.1.1≠0->r.1=s):=by
 intro r;have f:r=mtS s c:=rfl;unfold mtS at f;by_cases k:(cq (fH s) c).2.1≠0
 .rw[aQ k] at f;rw[f];exact⟨a,d,λ_=>rfl⟩
 rw[aM k] at f;by_cases t:1000<=qB s (cq (fH s) c).1
 .rw[aQ t] at f;rw[f];exact⟨a,d,λ_=>rfl⟩
 rw[aM t] at f;have k:(cq (fH s) c).2.1=0:=Ev k;obtain⟨y,n,u⟩:=A4 k;obtain⟨x,A,rfl⟩:=yz n;have u:x.1=(cq (fH s) c).1:=u;rw[<-u] at t f;have B:=a.VF;obtain⟨⟨E,F⟩,_⟩:=a.P9 (id:=x.1) (by omega);have o:0<qB s x.1+1:=by omega
 have v:wK (λy:du=>y.1) (Ml (λy:du=>y.1) s.2.2.2.2.1 x.1):=abU _ a.W2 _;have g:wK (λy:du=>y.1) (oE (λy:du=>y.1) (Ml (λy:du=>y.1) s.2.2.2.2.1 x.1) (x.1,qB s x.1+1,())):=Ie _ v (λy n=>((Ig _).1 n).2);have j:∀m∈oE (λy:du=>y.1) (Ml (λy:du=>y.1) s.2.2.2.2.1 x.1) (x.1,qB s x.1+1,()),Ic s m:=λm p=>by
  rcases(Ak _).1 p with rfl|p
  .exact⟨⟨x,A,rfl⟩,by show(1:Int)<=qB s x.1+1;omega,by show qB s x.1+1<=1000;omega⟩
  .exact a.mts m ((Ig _).1 p).1
 have hlen:(oE (λy:du=>y.1) (Ml (λy:du=>y.1) s.2.2.2.2.1 x.1) (x.1,qB s x.1+1,())).length<=32:=by
  have C:=ab1 (l:=(oE (λy:du=>y.1) (Ml (λy:du=>y.1) s.2.2.2.2.1 x.1) (x.1,qB s x.1+1,())).map (·.1)) (m:=s.2.2.1.map (·.1)) (by
   have:=g;unfold wK at this;exact List.Pairwise.imp (λh=>yf h) this) (λz D=>by
   obtain⟨m,p,rfl⟩:=pQ.1 D;obtain⟨⟨y,n,e⟩,_⟩:=j m p;exact pQ.2 ⟨y,n,e⟩)
  have G:=a.abV;rw[qI,qI] at C;omega
 have w:KU s x.1 (qB s x.1+1)=(s.1,s.2.1,s.2.2.1,s.2.2.2.1,oE (λy:du=>y.1) (Ml (λy:du=>y.1) s.2.2.2.2.1 x.1) (x.1,qB s x.1+1,()),s.2.2.2.2.2):=by
  unfold KU;rw[aQ o]
 rw[f];refine⟨?_,?_,λq=>absurd rfl q⟩
 .show Aj (KU s x.1<|qB s x.1+1)
  rw[w];exact⟨a.b,a.i,a.l,a.lays,hlen,a.tops,a.refs,j,g⟩
 .show Ib (KU s x.1<|qB s x.1+1)
  rw[w];exact⟨d.ll,d.il,d.bl,d.xl,d.xi,d.xb,d.dl,gj hlen (by decide)⟩
theorem VN(s:aZ)(id:Tx):y6 (s,id,())=kj (s.2.2.1,id,()):=rfl
theorem Xd{a:Type}(A B:List a)(x y:a):(A++x::B).set A.length y=A++y::B:=by
 rw[List.set_append];simp
theorem ab2:∀(k:Nat) (A M B:List ax),M.length<=k->A.length+M.length+B.length<=1000000 ->
  ∃q,Loop eA (((A.length:Int),(A.length:Int)+(M.length:Int)-1,(),()),A++M++B,())=some (q,A++M.reverse++B,()):=by
 intro k;induction k with
 | zero =>
   intro A M B e f;obtain rfl:M=[]:=wN.1 (by omega);apply Exists.intro;rw[aN,show eA (((A.length:Int),(A.length:Int)+(([]:List ax).length:Int)-1,(),()),A++[]++B,())=some (.inr (((A.length:Int),(A.length:Int)+(([]:List ax).length:Int)-1,(),()),A++[]++B,())) from by
    unfold eA;dsimp only;rw[aB<|by simp only[eB];omega,ae];rfl]
   rfl
 | succ k g =>
   intro A M B e f;by_cases c:M.length<=1
   .have h:M.reverse=M:=by
     match M,c with
     | [],_=>rfl
     | [a],_=>rfl
    rw[h];apply Exists.intro;rw[aN,show eA (((A.length:Int),(A.length:Int)+(M.length:Int)-1,(),()),A++M++B,())=some (.inr (((A.length:Int),(A.length:Int)+(M.length:Int)-1,(),()),A++M++B,())) from by
     unfold eA;dsimp only;rw[aB<|by omega,ae];rfl]
    rfl
   .obtain⟨x,N,y,rfl⟩:∃x N y,M=x::(N++[y]):=by
     cases M with
     | nil=>simp at c
     | cons x t =>
       have i:t≠[]:=by rintro rfl;simp at c
       exact⟨x,t.dropLast,t.getLast i,by rw[adP]⟩
    have j:(A.length:Int)+((x::(N++[y])).length:Int)-1=((A.length+N.length+1:Nat):Int):=by simp;omega
    have hlen:(x::(N++[y])).length=N.length+2:=by simp
    rw[hlen] at f e;rw[j];obtain⟨q,l⟩:=g (A++[y]) N (x::B) (by omega) (by simp;omega);refine⟨q,?_⟩;have m:A++x::(N++[y])++B=A++x::(N++y::B):=by simp
    have n:(A++x::(N++y::B)).length=A.length+N.length+B.length+2:=by simp;omega
    have o:(A++x::(N++y::B))[A.length]?=some x:=by simp
    have p:(A++x::(N++y::B))[A.length+N.length+1]?=some y:=by
     rw[Ij<|by omega,show A.length+N.length+1-A.length=N.length+1 by omega,Qz];simp
    have s1:(A++x::(N++y::B)).set A.length y=A++y::(N++y::B):=Xd A _ x y;have d:A++y::(N++y::B)=(A++y::N)++y::B:=by simp
    have r:(A++y::(N++y::B))[A.length+N.length+1]?=some y:=by
     rw[Ij<|by omega,show A.length+N.length+1-A.length=N.length+1 by omega,Qz];simp
    have s2:(A++y::(N++y::B)).set (A.length+N.length+1) x=(A++[y])++N++(x::B):=by
     rw[d,show A.length+N.length+1=(A++y::N).length by simp;omega,Xd];simp
    have b:eA (((A.length:Int),((A.length+N.length+1:Nat):Int),(),()),(A++x::(N++y::B),())) =
      some (.inl ((((A++[y]).length:Int),((A++[y]).length:Int)+(N.length:Int)-1,(),()),(A++[y])++N++(x::B),())):=by
     unfold eA;dsimp only;rw[aK<|by omega,ab,aW (by omega) (by unfold len;omega),ab,ao p,aa,aW (by omega) (by unfold len;omega),ab,ao o,aa,ab,aa,aa,aa,
      gm,s1,aW (by omega) (by unfold len;simp;omega),ab,ao r,aa,aa,aa,gm,s2,aL (by omega),de (by omega) (by omega)]
     rw[show((A.length+N.length+1:Nat):Int)-1=((A++[y]).length:Int)+(N.length:Int)-1 by simp;omega,show((A.length+1:Nat):Int)=((A++[y]).length:Int) by simp];rfl
    rw[m,aN,b];show Loop _ _=_
    rw[l];simp
theorem VO(s:aZ)(id:Tx)(e:s.2.2.1.length<=100000)(d:∀x∈s.2.2.1,pg x.2.2.1):nQ (s,id,())=some ((cT s.2.2.1 s.2.2.2.1 id).1,(cT s.2.2.1 s.2.2.2.1 id).2,()):=by
 unfold nQ cT;obtain⟨p,r,t,h⟩:=GN s.2.2.1 id (by omega) d 16 id [] rfl;rw[<-VN] at h;refine ob h ?_;unfold bc;by_cases c:(yx s.2.2.1 16 id []).2=0
 rotate_left
 .rw[aM c,aM c];dsimp only;rw[show dJ 0 0=true from rfl,ab,aE c,aw,ab]
 rw[aQ c,aQ c];have b:(yx s.2.2.1 16 id []).1.length<=16:=(rC (ls:=s.2.2.1) (id:=id)).2;generalize (yx s.2.2.1 16 id []).1=L at b⊢;dsimp only;rw[show dJ 1 0=false from rfl,ae];obtain⟨q,g⟩:=ab2 L.length [] L [] (cg _) (by simp;omega);rw[show cC IntKind.i64 (@len ax L) 1=(([]:List ax).length:Int)+(L.length:Int)-1 from by rw[de (by unfold len;omega)<|by unfold len;omega];unfold len;simp];refine ob (show Loop eA (((0:Int),(([]:List ax).length:Int)+(L.length:Int)-1,(),()),L,())=some (q,L.reverse,()) from by simpa using g) ?_;have k:=xq (f:=oX (s,id,()) (q,L.reverse,())) L.reverse (λ(ds:List Tx) (i:Int)=>(((),i,()),ds,())) (λx=>[rD s.2.2.1 s.2.2.2.1 x.1]) (((),(L.reverse.length:Int),()),L.reverse.flatMap<|λx=>[rD s.2.2.1 s.2.2.2.1 x.1],()) (by rw[MU];omega)
  (λi x l m a=>by
   unfold oX;dsimp only;have n:((L.reverse.take i).flatMap λx:ax=>[rD s.2.2.1 s.2.2.2.1 x.1]).length<=16:=by
    rw[<-List.map_eq_flatMap,qI,fB,MU];omega
   have hd:(P7 s x.1).2.1=rD s.2.2.1 s.2.2.2.1 x.1:=by
    unfold P7 rD;cases h:BQ s.2.2.1 x.1 with
    | none=>rfl
    | some j =>
      obtain⟨z,o,_⟩:=Ai h;dsimp only;rw[o]
   rw[ak m,ab,ao l,aa];refine(congrArg dh<|ob (Tl s x.1 e d) rfl).trans ?_;rw[hd,bD (by simp only[Lm];omega),ab,a];rfl)
  (by
   unfold oX;dsimp only;rw[ay,ae];rfl)
 refine ob k ?_;dsimp only;rw[show(L.reverse.flatMap λx:ax=>[rD s.2.2.1 s.2.2.2.1 x.1])=L.reverse.map (λx:ax=>rD s.2.2.1 s.2.2.2.1 x.1) from(List.map_eq_flatMap).symm];refine ob (adu _<|by rw[qI,MU];omega) ?_;rfl
set_option maxRecDepth 100000
theorem KW:qA ()=some (lL 1024,()):=by
 unfold qA;rw[aR (by decide) (by decide)<|by decide,ab,show fits (1024:Int)=true from by unfold fits;exact dI (by decide),ab];kernel_rfl
theorem abv.hd{s:aZ}(h:abv s):W3 s:=⟨h.base.ll,h.base.il,h.base.bl,h.base.ln,h.base.pW,h.base.bn,λx a=>(h.base.im x a).2⟩
structure agr (s:aZ):Prop where
 bl:s.1.length<=1000000
 il:s.2.1.length<=1000000
 ll:s.2.2.1.length<=1000000
 dl:s.2.2.2.1.length<=1000000
 ml:s.2.2.2.2.1.length<=1000000
 xb:∀x∈s.1,pg x.2.1/\DU x.2.2.2.2.2.1
 xi:∀x∈s.2.1,pg x.2.1/\DU x.2.2.2.2.1
 xl:∀x∈s.2.2.1,pg x.2.2.1
theorem VP{s:aZ}(h:agr s):ew (s,s,())=some (true,()):=by
 unfold ew;dsimp only;rw[KK _ h.bl h.xb,aa];dsimp only;rw[ab,GJ _ h.il h.xi,aa,aa,ab,GK _ h.ll h.xl,aa,aa,ab,vd _ (by have:=h.dl;omega),aa,aa,ab,GL _ h.ml,aa];rfl
def e0:aZ:=([],[],[],[],[],())
def e5:Tx:=[48,48,48,48,48,53]
def e6:Tx:=[48,48,48,48,48,54]
def eb:Tx:=[98,97,115,101]
def L5(D:Tx):ax:=(e5,[],[eb],D,1024,0,true,())
def L6(D:Tx):ax:=(e6,e5,[],D,1024,0,true,())
def s1(D N:Tx):aZ:=([],[],[L5 D],[N],[],())
def s2(D N:Tx):aZ:=([],[],[L5 D,L6 D],[N,N],[],())
def s3(D N:Tx):aZ:=([],[],[L5 D,L6 D],[N,N],[(e6,1,())],())
theorem ags:crG e0 [] [eb] 5=(s1 (j0<|lL 1024)<|lL 1024,GI e5,()):=by
 have a:lX [eb]=0:=by kernel_rfl
 have b:qO (fH e0) [] [eb]=0:=by kernel_rfl
 have c:eo (fH e0) 5=(e5,0,()):=by kernel_rfl
 unfold crG;rw[aM<|λq=>q a,aM (λq=>q.1 rfl),aM (λq=>q b),c,aM (λq=>q rfl),aM (λq=>q.1 (aQ rfl)),show bT e0 []=[] from aQ rfl];rfl
theorem agt:crG (s1 (j0<|lL 1024)<|lL 1024) eb [] 5=(s2 (j0<|lL 1024)<|lL 1024,GI e6,()):=by
 have b:lX []=0:=by kernel_rfl
 have a:∀D N,cq (fH<|s1 D N) eb=(e5,0,()):=λD N=>by kernel_rfl
 have c:∀D N,qO (fH<|s1 D N) [] []=0:=λD N=>by kernel_rfl
 have d:∀D N,eo (fH<|s1 D N) 5=(e6,0,()):=λD N=>by kernel_rfl
 have e:∀D,bc [L5 D] e5=([L5 D],0):=λD=>by kernel_rfl
 have f:bT (s1 (j0<|lL 1024)<|lL 1024) eb=e5:=by
  unfold bT;rw[aM<|by decide,a]
 unfold crG;rw[aM<|λq=>q b,a,aM (λq=>q.2 rfl),aM (λq=>q (c _ _)),d,aM (λq=>q rfl),f,show(s1 (j0<|lL 1024)<|lL 1024).2.2.1=[L5<|j0<|lL 1024] from rfl,e,aM λq=>absurd q.2.2 (by decide)];rfl
theorem Qa:jz ()=some (true,()):=by
 rename_i i;have e:W3 e0:=⟨by decide,by decide,by decide,λx a=>(by cases a),λx a=>(by cases a),λx a=>(by cases a),λx a=>(by cases a)⟩;have b:∀D N,∀x∈(s1 D N).2.2.1,pg x.2.2.1:=λD N x a=>by
  obtain rfl:=wO.1 a;exact⟨by show 1<=8;decide,λy f=>by obtain rfl:=wO.1 f;show 4<=100;decide⟩
 have g:∀D N,W3 (s1 D N):=λD N=>⟨by show 1<=40;decide,by show 0<=40;decide,by show 0<=40;decide,b D N,λx a=>(by cases a),λx a=>(by cases a),λx a=>(by cases a)⟩;have h:∀D N,agr (s1 D N):=λD N=>⟨by show 0<=1000000;decide,by show 0<=1000000;decide,by show 1<=1000000;decide,by show 1<=1000000;decide,by show 0<=1000000;decide,λx a=>(by cases a),λx a=>(by cases a),b D N⟩;have c:=y8 e0 [] [eb] 5 e (by decide);have d:=y8 (s1 (j0<|lL 1024)<|lL 1024) eb [] 5 (g _ _) (by decide);rw[ags] at c;rw[agt] at d;have d1:∀D N,cF (s2 D N,eb,())=some (s2 D N,ua 7,()):=λD N=>by
  obtain rfl:i=Lp.Q6:=Lp.one _ _;kernel_rfl
 have d2:∀D N,ik (s2 D N,e6,())=some (s3 D N,(0,e6,1,[],()),()):=λD N=>by
  obtain rfl:i=Lp.Q6:=Lp.one _ _;kernel_rfl
 have d3:∀D N,cF (s3 D N,e6,())=some (s3 D N,ua 7,()):=λD N=>by
  obtain rfl:i=Lp.Q6:=Lp.one _ _;kernel_rfl
 have j:∀D N,nU (s3 D N,e6,())=some (s2 D N,GI e6,()):=λD N=>by
  obtain rfl:i=Lp.Q6:=Lp.one _ _;kernel_rfl
 have k:∀D N,cF (s2 D N,e6,())=some (s1 D N,GI e6,()):=λD N=>by
  obtain rfl:i=Lp.Q6:=Lp.one _ _;kernel_rfl
 have l:∀D N,cB (s1 D N,[],[],[120],1,())=some (s1 D N,ua 10,()):=λD N=>by
  unfold cB;dsimp only;rw[vG []<|by decide,aa];obtain rfl:i=Lp.Q6:=Lp.one _ _;kernel_rfl
 have m:∀D N,sn (s1 D N,[48],())=some ((0,e5,0,N,()),()):=λD N=>by
  obtain rfl:i=Lp.Q6:=Lp.one _ _;kernel_rfl
 have n:∀D N,ew (s1 D N,s1 D N,())=some (true,()):=λD N=>VP (h D N);unfold jz;rw[show cB ((([]:List yj),([]:List lY),([]:List ax),([]:List Tx),([]:List du),()),([]:Tx),([([98,97,115,101]:Tx)]:List Tx),([]:Tx),(5:Int),())=_ from c,aa];dsimp only;rw[show cB (s1 (j0<|lL 1024)<|lL 1024,([98,97,115,101]:Tx),([]:List Tx),([]:Tx),(5:Int),())=_ from d,aa];dsimp only;rw[show cF (s2 (j0<|lL 1024)<|lL 1024,([98,97,115,101]:Tx),())=_ from d1 _ _,aa];dsimp only;rw[show ik (s2 (j0<|lL 1024)<|lL 1024,([48,48,48,48,48,54]:Tx),())=_ from d2 _ _,aa];dsimp only;rw[show cF (s3 (j0<|lL 1024)<|lL 1024,([48,48,48,48,48,54]:Tx),())=_ from d3 _ _,aa];dsimp only;rw[show nU (s3 (j0<|lL 1024)<|lL 1024,([48,48,48,48,48,54]:Tx),())=_ from j _ _,aa];dsimp only;rw[show cF (s2 (j0<|lL 1024)<|lL 1024,([48,48,48,48,48,54]:Tx),())=_ from k _ _,aa];dsimp only;rw[show cB (s1 (j0<|lL 1024)<|lL 1024,([]:Tx),([]:List Tx),([120]:Tx),(1:Int),())=_ from l _ _,aa];dsimp only;rw[show ew (s1 (j0<|lL 1024)<|lL 1024,s1 (j0<|lL 1024)<|lL 1024,())=_ from n _ _,aa,show sn (s1 (j0<|lL 1024)<|lL 1024,([48]:Tx),())=_ from m _ _,aa,KW,KQ];simp only[aa,ve];rfl
end Go.Ge
namespace Go.Ge
variable [Lp]
theorem Oh{c:Bool}{X:Option (Bool×ai)}(h:c=false->X=some (true,())):aj c (af (jz ()) λy=>some (y.1,())) X=some (true,()):=by
 cases c with
 | true=>rw[ab,Qa,aa]
 | false=>rw[ae];exact h rfl
theorem ab3{s:aZ}(b:Aj s){x:ax}(a:∀y∈s.2.2.1,y.1≠x.1):BQ (oE (λy:ax=>y.1) s.2.2.1 x) x.1=some (dx (λy:ax=>y.1) s.2.2.1 x.1):=by
 have c:=Ie (λy:ax=>y.1) b.upL a;refine D2 c ?_;rw[Xc];unfold sR;have d:=uq (λy:ax=>y.1) s.2.2.1 x.1;rw[kR,Ij (by rw[fB];omega),fB,pb d,Wc];rfl
theorem Hz{s:aZ}(c:Aj s)(h:s.2.2.1.length<=1000){x:ax}{d:Tx}(a:∀y∈s.2.2.1,y.1≠x.1):oH (sS s x d,x.1,())=some (x,d,true,()):=by
 have e:=uq (λy:ax=>y.1) s.2.2.1 x.1;have b:=ab3 c a;unfold oH;refine ob (CG (sS s x d) x.1<|by show(oE (λy:ax=>y.1) s.2.2.1 x).length<=_;rw[KI];omega) ?_;dsimp only;unfold yw;rw[show BQ (sS s x d).2.2.1 x.1=some (dx (λy:ax=>y.1) s.2.2.1 x.1) from b];dsimp only;rw[aB<|by omega,ae];have f:(sS s x d).2.2.1[dx (λy:ax=>y.1) s.2.2.1 x.1]?=some x:=by
  show(oE (λy:ax=>y.1) s.2.2.1 x)[dx (λy:ax=>y.1) s.2.2.1 x.1]?=some x
  rw[Xc];unfold sR;rw[kR,Ij (by rw[fB];omega),fB,pb e,Wc];rfl
 have g:(sS s x d).2.2.2.1[dx (λy:ax=>y.1) s.2.2.1 x.1]?=some d:=by
  show(sR s.2.2.2.1 (dx (λy:ax=>y.1) s.2.2.1 x.1) d)[dx (λy:ax=>y.1) s.2.2.1 x.1]?=some d
  have i:=c.lays.same;unfold sR;rw[kR,Ij (by rw[fB];omega),fB,pb (by omega),Wc];rfl
 refine ob (ao f) ?_;refine ob (KE (sS s x d) _) ?_;rw[g];rfl
theorem ab4{s:aZ}(e:Aj s){x:ax}{d:Tx}(a:∀y∈s.2.2.1,y.1≠x.1)(b:x.2.1=[]\/(cT s.2.2.1 s.2.2.2.1 x.2.1).2=0) :
  cT (sS s x d).2.2.1 (sS s x d).2.2.2.1 x.1=eI (Ao s.2.2.1 s.2.2.2.1 x.2.1) d\/cT (sS s x d).2.2.1 (sS s x d).2.2.2.1 x.1=([],5):=by
 obtain⟨m,n,o,p,k,f,h,_,i,l⟩:=GM s.2.2.1 s.2.2.2.1 x d e.lays.same;have g:=e.upL;have c:=Ie (λy:ax=>y.1) g a;show cT (oE (λy:ax=>y.1) s.2.2.1 x) (sR s.2.2.2.1 (dx (λy:ax=>y.1) s.2.2.1 x.1) d) x.1=_\/cT (oE (λy:ax=>y.1) s.2.2.1 x) (sR s.2.2.2.1 (dx (λy:ax=>y.1) s.2.2.1 x.1) d) x.1=_
 rw[i] at c;rw[i,l];have j:=e.lays;rw[f,h] at j b;rw[f] at g a;rw[f,h];exact VK k g c j a b
theorem Zc(s:aZ)(p:Tx):Ao s.2.2.1 s.2.2.2.1 p=(A9 s p).1:=by
 unfold Ao A9;by_cases h:p=[]
 .rw[aQ h,aQ h]
 .rw[aM h,aM h]
theorem Zd{l:List Nd}(h:Valid l):l.length<=4294967296:=by
 have:=h.1;omega
set_option maxHeartbeats 1000000 in
theorem HA(s:aZ)(xs:List Tx)(n:Int)(hx:xs.length=2)(hk:BkS s):jJ (s,xs,n,())=some (true,()):=by
 obtain⟨c,f,rfl⟩:∃a b,xs=[a,b]:=by
  match xs,hx with
  | [a,b],_=>exact⟨a,b,rfl⟩
 obtain⟨bf,e1,f1⟩:=Ys s;unfold jJ;dsimp only;have w0:within (0:Int) 2=true:=rfl;have w1:within (1:Int) 2=true:=rfl;have i0:idx [c,f] (0:Int)=some c:=rfl;have i1:idx [c,f] (1:Int)=some f:=rfl;simp only[w0,w1,ab,i0,i1,aa];rw[e1,aa];dsimp only;rw[pn rfl,pn rfl];cases bf with
 | false =>
   rw[show(!(nt<|!(nt<|nt false)||aY (100:Int) (@len UInt8 c))||aY (8192:Int) (@len UInt8 f))=true from rfl,aA,ae,aa];exact Oh λq=>by cases q
 | true =>
 have hF:=f1 rfl;have j:=hF.bd hk;obtain⟨bm,e2,f2⟩:=Oc s j;rw[pn<|by rw[e2,aa]];refine Oh λhc=>?_;have R:f.length<=8192:=by
  apply Nat.le_of_not_lt;intro hlt;rw[show aY (8192:Int) (@len UInt8 f)=true from aK (by unfold len;omega)] at hc
  revert hc
  cases aY (100:Int) (len c)<;>cases bm<;>simp[nt]
 have v:Aj s:=f2.1 (by
  cases bm with
  | true=>rfl
  | false =>
    exfalso
    revert hc
    cases aY (100:Int) (len c)<;>cases aY (8192:Int) (len f)<;>simp[nt])
 have w:pg [qy]:=⟨by simp,λx hx=>by rw[wO] at hx;subst hx;simp[qy]⟩;have hll:=j.ll;have hT:∀p,nQ (s,p,())=some ((cT s.2.2.1 s.2.2.2.1 p).1,(cT s.2.2.1 s.2.2.2.1 p).2,()):=λp=>VO s p (by omega) j.hd.ln;rw[show([([(102:UInt8),(114:UInt8),(101:UInt8),(115:UInt8),(104:UInt8),(45:UInt8),(110:UInt8),(97:UInt8),(109:UInt8),(101:UInt8)]:aq)]:List aq)=[qy] from rfl,
  show([(102:UInt8),(114:UInt8),(101:UInt8),(115:UInt8),(104:UInt8),(45:UInt8),(110:UInt8),(97:UInt8),(109:UInt8),(101:UInt8)]:aq)=qy from rfl]
 have hmf:=v.VF;rw[Hy s c [qy] f n j.hd (by simp) R hT,aa,D7 s c j.hd (by omega),aa,FL s c j.hd v,aa];obtain⟨Q,a2,a3,a4⟩:=Y8 j v c [qy] f n w R;obtain⟨b1,b2,b3⟩:=Za j v c;obtain⟨c1,c2,c3⟩:=Zb j v c;generalize crS s c [qy] f n=i at Q a2 a3 a4;generalize dlS s c=rb at b1 b2 b3;generalize mtS s c=rc at c1 c2 c3;have m:∀t:aZ,Aj t->Ib t->kv (t,())=some (true,()):=λt h1 h2=>by
  obtain⟨b,g1,g2⟩:=Oc t h2;rw[g1,g2.2 h1]
 have H:=Tg s j (by have:=hF.agd;omega);rw[m _ Q a2,aa,pn (by rw[m _ b1 b2,aa]),pn (by rw[m _ c1 c2,aa])];have nn:∀r:aZ×P3×ai,(r.2.1.1≠0->r.1=s)->(af (aj (nt<|aX r.2.1.1 (0:Int)) (af (ew (r.1,s,())) λ(I:Bool×ai)=>some (nt I.1))<|some false) λ(I:Bool)=>some I)=some false:=λr h=>by
  by_cases q:r.2.1.1=0
  .rw[aJ q];rfl
  .rw[aE q,aw,ab,h q,H];rfl
 rw[pn<|nn i λq=>by rw[a3 q],pn (nn rb b3),pn (nn rc c3)];rw[show(!(nt<|!(nt<|!(nt<|!(nt<|!(nt<|nt true)||nt true)||nt true)||false)||false)||false)=false from rfl,ae];by_cases q:i.2.1.1=0
 rotate_left
 .rw[aE q,aw,ab];have ha:=a3 q;rw[ha];dsimp only[ua];rw[iZ,show bt ([]:Tx) []=true from rfl,show aX (0:Int) 0=true from rfl,show an true (an true<|an true<|an true true)=true from rfl,ab,Qa];rfl
 rw[aJ q,aA,ae];have hC:=a4 q;have ale:=hC.id;obtain⟨x,A⟩:∃x,x=Y7 i.2.1.2.1 (bT s c) [qy] f:=⟨_,rfl⟩;have S:x.1=i.2.1.2.1:=by rw[A];rfl
 have J:x.2.1=bT s c:=by rw[A];rfl
 have hx3:x.2.2.1=[qy]:=by rw[A];rfl
 have C:=hC.val;rw[<-A] at C;have D:∀y∈s.2.2.1,y.1≠x.1:=by rw[S];exact hC.new
 have o:i.1=sS s x (ti f):=by rw[C]
 have K:x∈i.1.2.2.1:=by rw[o];exact(Ak _).2 (.inl rfl)
 have L:cq (fH i.1) qy=(x.1,0,()):=by
  refine VG (x:=(x.1,x.2.2.1,())) (P8 Q K) (by rw[hx3];simp) (λy B=>?_) (λy B hn=>?_)
  .obtain⟨z,E,rfl⟩:=yz B;intro e;have e:z.1=qy:=e;have T:=(Q.l.ll z E).id;rw[e] at T;have:=T.2;simp[qy] at this
  .obtain⟨z,E,rfl⟩:=yz B;rw[o] at E;rcases(Ak _).1 E with rfl|E
   .rfl
   .exact absurd (wO.2 rfl) (hC.nms z E qy hn)
 rw[iS i.1 qy a2.hd,aa,L];rw[<-S];have U:oH (i.1,x.1,())=some (x,ti f,true,()):=by rw[o];exact Hz v (by omega) D
 rw[U,aa];dsimp only;rw[show aj (nt<|aj (nt<|nt true) (nt<|bt x.1 x.1) true) (nt<|aX (0:Int) 0) true=false from by rw[kT];rfl,ae];have hal:=a2.ll;rw[CH i.1 x.1<|by omega,aa];dsimp only;have g:bT s c=[]\/(cT s.2.2.1 s.2.2.2.1<|bT s c).2=0:=by
  rcases hC.par with h|⟨y,B,V⟩
  .exact .inl h
  .right;rw[<-V];exact(v.KN B).2
 have u:cT i.1.2.2.1 i.1.2.2.2.1 x.1=eI (A9 s<|bT s c).1 (ti f):=by
  have W:(cT i.1.2.2.1 i.1.2.2.2.1 x.1).2=0:=(Q.KN K).2;rcases ab4 v (d:=ti f) D (by rw[J];exact g) with h|h
  .rw[o,h,J,Zc]
  .rw[o,h] at W;cases W
 have X:(A9 s<|bT s c).2=0:=by
  unfold A9;by_cases h:bT s c=[]
  .rw[aQ h]
  .rw[aM h];exact g.resolve_left h
 have M:=FK X;rw[u];have Y:(aj (nt<|bt c ([]:Tx)) (af (cY (s,c,())) λN=>af (kK (s,N.1,())) λZ=>aj (aj (nt<|aj (nt<|nt<|aX N.2.1 (0:Int)) (nt<|aX Z.2.1 (0:Int)) true) (nt<|bt x.2.1 N.1) true) (some ((1:Nat),(false,([]:List Nd),()),())) (some ((0:Nat),(false,Z.1,()),())))<|some ((0:Nat),(false,([]:List Nd),()),())) =
   some ((0:Nat),(false,(A9 s<|bT s c).1,()),()):=by
  by_cases h:c=[]
  .rw[ch h,aA,ae];unfold A9 bT;rw[aQ h,aQ rfl]
  .rw[bj h,aw,ab];have hf0:=hC.find h;have hp:bT s c=(cq (fH s) c).1:=aM h;refine ob (iS s c j.hd) ?_;refine ob (CH s _<|by omega) ?_;dsimp only;have F:bT s c≠[]:=by
    rcases hC.par with k|⟨y,B,V⟩
    .obtain⟨y,B,V⟩:=A4 hf0;obtain⟨z,E,rfl⟩:=yz B;rw[hp,<-V];intro e;have:=(v.l.ll z E).id;rw[show z.1=[] from e] at this;exact pr this
    .rw[<-V];intro e;have:=(v.l.ll y B).id;rw[e] at this;exact pr this
   have ht0:=g.resolve_left F;rw[<-hp,aJ hf0,aJ ht0,ch J];rw[show aj (nt<|aj (nt<|nt true) (nt true) true) (nt true) true=false from rfl,ae];unfold A9;rw[aM F]
 have O:=Y;refine ob O ?_;dsimp only;rw[show dJ 0 0=true from rfl,ab];have P:(aj (nt<|bt f ([]:Tx)) (af (lJ ((A9 s<|bT s c).1,f,())) λy25=>aj (nt<|aX y25.2.1 (0:Int)) (some ((1:Nat),(false,(A9 s<|bT s c).1,()),())) (some ((0:Nat),(false,y25.1,()),())))<|some ((0:Nat),(false,(A9 s<|bT s c).1,()),())) =
   some ((0:Nat),(false,(eI (A9 s<|bT s c).1<|ti f).1,()),()):=by
  by_cases h:f=[]
  .rw[ch h,aA,ae];unfold ti;rw[aQ h,W6 M]
  .rw[bj h,aw,ab];refine ob (KD M f) ?_;dsimp only;rw[aJ<|hC.app h,aA,ae];unfold ti;rw[aM h]
 refine ob P ?_;dsimp only;rw[show dJ 0 0=true from rfl,ab];have G:(eI (A9 s<|bT s c).1<|ti f).2=0:=by
  rw[<-u];exact(Q.KN K).2
 have aiG:Valid (eI (A9 s<|bT s c).1<|ti f).1:=by
  rcases xD M (ti f) with ⟨_,h,_⟩|⟨h,_⟩
  .exact h
  .exact absurd G h
 rw[aJ G,ab];refine ob (ob (Me _<|Zd aiG) rfl) ?_;rw[ab];refine ob (ob Qa rfl) ?_;rfl
end Go.Ge
