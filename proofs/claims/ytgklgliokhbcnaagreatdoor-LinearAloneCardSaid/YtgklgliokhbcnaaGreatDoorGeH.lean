import Derived.Test.YtgklgliokhbcnaaGreatDoorGeG
import Derived.Laws.Sem
import Derived.ProofKit
import Derived.Lib.LazyBuf
import Derived.Lib.Bytealg
import Derived.Shelf.Strings.SplitCore
import Derived.Shelf.Strings.Search3
import Derived.Shelf.Strings.Count
import Derived.Lib.SplitLaws
import Derived.Lib.Join
import Derived.Lib.IndexBytes
import Derived.Shelf.Strconv.Itoa3
import Derived.Shelf.Strconv.ErrVarParseInt
import Derived.Lib.AppendIntMem
import Derived.Lib.ItoaLen
import Derived.Lib.LaidTab
import Derived.LaidSub
set_option linter.unusedSectionVars false
set_option linter.unusedVariables false
set_option linter.unusedSimpArgs false
set_option linter.defProp false
open Option renaming some->aa,none->af
open Go.IntKind (i64)
namespace Go.Ge
variable [Lp]
open RowKit
def XF(b:Func):Bool:=!(b.name == "runtime.NumGoroutine")&&(match b.body with|some c=>(writes c).all λt=>Nat.blt t b.ntmps|none=>true)
def P7(cx:Ctx):Prop:=∀f b,find cx.fns f=aa b->XF b=true
def sd{α}{l:List (Nat×α)}{k x}(h:find l k=aa x):(k,x)∈l:=by
 induction l with
 | nil=>cases h
 | cons p r c =>
   obtain⟨i,a⟩:=p;simp only[find] at h;cases b:Nat.beq i k with
   | true =>
     rw[b] at h;obtain rfl:=aF h;obtain rfl:=gA b;exact qT ..
   | false=>rw[b] at h;exact vK _ (c h)
def aed{cx}(h:(cx.fns.all λp=>XF p.2)=true):P7 cx:=λf c b=>by
 rw[vN] at h;exact h _ (sd b)
section
variable {P:Program} {B:BT} {N:Nat} {γ:Gh} {σ:St} {a:Act} {w:World} {cx:Ctx}
def HG(b:Array Value):ResultVar->Sem Value
 | .tmp t=>pure (b.getD t undef)
 | .cell a t=>do loadVar t (<-asAddr (b.getD a undef))
def Bg(e:fi P cx)(h:dm B N γ σ a w){r v}(d:(Hn cx σ r).run=aa v):∃b,(HG a.tmps r).run P w=.ok b w/\cu γ σ.mem w v .val [b]:=by
 cases r with
 | tmp t =>
   obtain rfl:=aF d;exact⟨_,rfl,h.bb t⟩
 | cell t ty =>
   obtain⟨τ,f,g⟩:=bind_some d;obtain rfl:=aF g;obtain⟨u,b,i,rfl,j,k,l⟩:=Ub e (x:=.tmp t) h f;refine⟨b,?_,?_⟩
   .have c:a.tmps.getD t undef=.pointer (aa i):=j;simp only[HG,c,asAddr,Sem.run_bind,Sem.run_pure,Result.andThen_ok,k]
   .simpa [St.bt,St.put] using l
def Mp(e:fi P cx)(h:dm B N γ σ a w):∀{rs v},(Fy cx σ rs).run=aa v->∃b,b.length=rs.length/\(rs.mapM<|HG a.tmps).run P w=.ok b w/\cu γ σ.mem w v .many b:=by
 intro rs;induction rs with
 | nil=>intro v d;obtain rfl:=aF d;exact⟨[],rfl,rfl,rfl⟩
 | cons r rs f =>
   intro v d;obtain⟨s,g,i⟩:=bind_some d;obtain⟨l,j,k⟩:=bind_some i;obtain rfl:=aF k;obtain⟨c,m,n⟩:=Bg e h g;obtain⟨b,o,p,q⟩:=f j;refine⟨c::b,by simp[o],?_,c,b,rfl,n,q⟩;simp only[Za,Sem.run_bind,m,Result.andThen_ok,p,Sem.run_pure]
def XG fn tmps:results fn tmps=(do
  let vs <-fn.results.toList.mapM (HG tmps)
  pure (if h:vs.toArray.size=1 then vs.toArray[0] else .tuple vs.toArray)):=by
 have h:results fn tmps=(do
   let vs <-fn.results.mapM (HG tmps)
   pure (if h:vs.size=1 then vs[0] else .tuple vs)):=by
  congr 1
 rw[h,Array.mapM_eq_mapM_toList];simp
def yT(i:fi P cx)(h:dm B N γ σ a w){fn v}(d:(results1 cx σ fn.results.toList).run=aa v):∃b,(results fn a.tmps).run P w=.ok b w/\cu γ σ.mem w v .val [b]:=by
 rw[XG];generalize fn.results.toList=rs at d;have many:∀{l},rs.length≠1->(Fy cx σ rs).run=aa l->∃b,(do
   let vs <-rs.mapM (HG a.tmps)
   pure (if h:vs.toArray.size=1 then vs.toArray[0] else .tuple vs.toArray):Sem Value).run P w=.ok b w/\cu γ σ.mem w (.BI l) .val [b]:=by
  intro l e j;obtain⟨c,k,m,n⟩:=Mp i h j;refine⟨.tuple c.toArray,?_,c.toArray,rfl,by simpa using n⟩;have:¬c.toArray.size=1:=by simp[k,e]
  simp only[Sem.run_bind,m,Result.andThen_ok,Sem.run_pure,dif_neg this]
 match rs,d with
 | [],d =>
   obtain⟨l,f,g⟩:=bind_some d;obtain rfl:=aF g;exact many aS f
 | [r],d =>
   obtain⟨b,o,p⟩:=Bg i h d;refine⟨b,?_,p⟩;simp only[Za,Sem.run_bind,o];rfl
 | r::s::rs,d =>
   obtain⟨l,f,g⟩:=bind_some d;obtain rfl:=aF g;exact many aS f
def HH{mem}(h:bC B γ mem w){b c}(e:lS γ mem w b c.toList) n :
  dm B (c.size+(n-c.size)) γ (yc mem b) { tmps:=c++Array.replicate (n-c.size) undef,defers:=[] } w where
 bb:=λt=>by
  show cu γ mem w ((b[t]?).getD .undef) .val [_]
  cases f:b[t]? with
  | none=>exact⟨_,rfl⟩
  | some v =>
    have g:t<c.size:=by
     have:=(hR.1 f).1;have d:=e.1;simp at d;omega
    have d:(c++Array.replicate (n-c.size) undef).getD t undef=c[t]:=by
     rw[Tt,ah0 g,(Array.getElem?_eq_getElem g)];rfl
    rw[d];exact e.2 t v c[t] f aS
 size:=aS
 defers:=rfl
 ok:=h
noncomputable def P8(c:Ctx)(n d:Nat)(b:Nat->Fv):Nat->List ch->St->Tree (ch×St) :=
 λg e σ=>(DU c n ((d+g+1)*1000) b g e σ.mem).bind λr=>.ret (r.1,{ σ with mem:=r.2 })
def Mq{n nb f gZ b mem r}(d:(DU cx (n+1) nb gZ f b mem).run=aa r) :
  ∃e c,find cx.fns f=aa e/\e.body=aa c/\((Lv cx nb (gZ f) (P8 cx n nb gZ) e c b mem).run=aa r\/∃R,(Zh R b mem<|adB R.2<|Lv cx nb (gZ f) (P8 cx n nb gZ) e c b).run=aa r):=by
 unfold DU at d;split at d
 case h_2=>cases d
 rename_i e g;split at d
 case h_2=>cases d
 rename_i c h;refine⟨e,c,g,h,?_⟩;split at d
 .exact .inl d
 .exact .inr ⟨_,d⟩
def EI{nb p inl fn c b mem r}(f:(Lv cx nb p inl fn c b mem).run=aa r) :
  ∃e aQ,(eF cx nb p.adx inl (WT p.adx c) p.marks<|yc mem b).run=aa (e,aQ)/\(e=0\/e=1)/\(results1 cx aQ fn.results.toList).run=aa r.1/\r.2=aQ.mem:=by
 obtain⟨q,g,h⟩:=bind_some f;obtain⟨e,aQ⟩:=q;obtain⟨d,i⟩:=ay h;obtain⟨v,j,k⟩:=bind_some i;obtain rfl:=aF k;refine⟨e,aQ,g,?_,j,rfl⟩;simp only[Li] at d;rcases d with d|d
 .exact .inl (gA d)
 .exact .inr (gA d)
def XH{mem}:∀{u vs},cu γ mem w u .many vs->lS γ mem w (Fz u) vs:=by
 intro u;induction u with
 | mix p q e c =>
   intro vs h;obtain⟨v,r,rfl,f,g⟩:=h;have:=c g;refine⟨by simp[Fz,this.1],λi j y b d=>?_⟩;cases i with
   | zero =>
     obtain rfl:=aF b;obtain rfl:=aF d;exact f
   | succ i=>exact this.2 i j y (by simpa [Fz] using b) (by simpa using d)
 | nl=>intro vs h;rw[show vs=[] from h];exact⟨rfl,λi v y b=>by cases b⟩
 | _=>intro vs h;exact h.elim
def UP{mem v x}(h:cu γ mem w v .val [x]):lS γ mem w [v] [x]:=by
 refine⟨rfl,λi d y b c=>?_⟩;cases i with
 | zero =>
   obtain rfl:=aF b;obtain rfl:=aF c;exact h
 | succ i=>cases b
def XI{I}:∀{R y vs},jV w I R y vs->cu ⟨I,λ_=>af⟩ (λ_=>af) w (BO R y) .many vs:=by
 intro R;induction R with
 | pair t r d c =>
   intro y vs h;obtain⟨e,b,rfl,f,g⟩:=h;exact⟨_,b,rfl,⟨e,f,rfl⟩,c g⟩
 | unit=>intro y vs h;exact h
 | _=>intro y vs h;exact h.elim
def EJ{mem R v val}(k:cu γ mem w v .val [val]) :
  ∃c,lS γ mem w (zo R v) c/\∀I y,jV w I R y c->lR w I R y val:=by
 have other:∀{R},(∀t,R≠.pair t .unit)->(∀y,rS R y=.BI (BO R y))->∃c,lS γ mem w (match v with|.BI v=>Fz v|v=>[v]) c/\∀I y,jV w I R y c->lR w I R y val:=by
  intro R l d;have one:lS γ mem w [v] [val]->∃c,lS γ mem w [v] c/\∀I y,jV w I R y c->lR w I R y val:=by
   intro f;refine⟨[val],f,λI y h=>?_⟩;exfalso;cases R with
   | pair t r =>
     obtain⟨m,g,e,_,i⟩:=h;obtain⟨_,rfl⟩:=adh e;cases r with
     | unit=>exact l t rfl
     | pair a b=>obtain⟨_,_,n,_⟩:=i;cases n
     | _=>exact i.elim
   | unit=>cases h
   | _=>exact h.elim
  cases v with
  | BI u =>
    obtain⟨j,f,i⟩:=k;refine⟨j.toList,XH i,λI y h=>?_⟩;unfold lR;rw[d];exact⟨j,f,XI h⟩
  | _=>exact one (UP k)
 cases R with
 | pair t r =>
   cases r with
   | unit =>
     refine⟨[val],by cases v<;>exact UP k,λI y h=>?_⟩;obtain⟨m,g,e,f,i⟩:=h;obtain⟨rfl,_⟩:=adh e;exact⟨m,f,rfl⟩
   | _ =>
     cases v<;>exact other (λo e=>by cases e) (λy=>rfl)
 | _ =>
   cases v<;>exact other (λo e=>by cases e) (λy=>rfl)
def Mr{R F mem r}(c:(adB R F mem).run=aa r):∃q y σ,(F mem).run=aa q/\gD (gY q.2) (chT R) (zo (chT R) q.1)=aa (y,σ)/\r=(rS (chT R) y,σ.mem):=by
 obtain⟨q,d,b⟩:=bind_some c;split at b
 case h_2=>cases b
 rename_i y σ e;exact⟨q,y,σ,d,e,(aF b).symm⟩
def agN:∀{l i t s},(t,s)∈Zg l i->∃u,s=.d u:=by
 intro l;induction l with
 | nil=>intro i t s h;cases h
 | cons a r b =>
   intro i t s h;rcases fI.1 h with h|h
   .obtain⟨rfl,rfl⟩:=eh h;exact⟨a,rfl⟩
   .exact b h
def Ms{R c mem F r}(d:(Zh R c mem F).run=aa r) :
  ∃(k:Carry) (x:k.ty.den) (v:ch) (mem':Nat->Option Box),C5 k (gY mem)/\(F (k.lock<|gY mem).mem).run=aa (v,mem')/\k.out false (gY mem) (adA R.1 v mem')=aa x/\T6 R.1 v R.2.length=true /\
   r=(Rq R.1 R.2.length (k.rQ false false (List.range R.2.length) (gY mem) x).bb,(k.rQ false false (List.range R.2.length) (gY mem) x).mem):=by
 unfold Zh at d;split at d
 .cases d
 rename_i m h;obtain⟨x,i,j⟩:=HE d;obtain⟨q,l,e⟩:=bind_some i;obtain⟨n,e⟩:=ay e;refine⟨⟨Zg R.2 0,m,λ_ f=>f⟩,x,q.1,q.2,⟨λt s g=>?_,aea h,λb x o=>(by cases o)⟩,l,Mo e,n,(aF j).symm⟩;obtain⟨u,rfl⟩:=agN g;trivial
def aee{γ mem w}:∀{m vs},cu γ mem w m .many vs->Rp m=vs.length/\∀t u,nth m t=aa u->∃v,vs[t]?=aa v/\cu γ mem w u .val [v]:=by
 intro m;induction m with
 | mix a b _ d =>
   intro vs h;obtain⟨v,r,rfl,e,f⟩:=h;obtain⟨g,i⟩:=d f;refine⟨by simp only[Rp,iE,g],λt u c=>?_⟩;cases t with
   | zero=>obtain rfl:=aF c;exact⟨v,rfl,e⟩
   | succ t=>exact i t u c
 | nl=>intro vs h;obtain rfl:vs=[]:=h;exact⟨rfl,λt u c=>(by cases t<;>cases c)⟩
 | _=>intro vs h;exact h.elim
def aaY{γ mem w bb}:∀b i,(∀t v,b[t]?=aa v->cu γ mem w (bb<|i+t) .val [v])->cu γ mem w (aiG bb i b.length) .many b:=by
 intro b;induction b with
 | nil=>intro i h;exact rfl
 | cons v r c =>
   intro i h;refine⟨v,r,rfl,h 0 v rfl,c _ λt u d=>?_⟩;have:=h (t+1) u (by simpa using d)
   rwa [show i+_=i+1+t by omega] at this
def Mt{gZ}:∀n nb f d mem r,(DU cx n nb gZ f d mem).run=aa r->∀b g,mem b=aa g->g.lk=true->r.2 b=aa g:=by
 intro n;induction n with
 | zero=>intro nb f d mem r h;cases h
 | succ n m =>
   intro nb f d mem r h b g j l;obtain⟨o,c,z,A,i⟩:=Mq h;have body:∀{mem r},(Lv cx nb (gZ f) (P8 cx n nb gZ) o c d mem).run=aa r->∀b g,mem b=aa g->g.lk=true->r.2 b=aa g:=by
    intro mem r h b g j l;obtain⟨e,aQ,i,C,D,p⟩:=EI h;have:=n8 (λf d σ v aQ s=>by
     obtain⟨q,t,u⟩:=bind_some s;obtain⟨rfl,rfl⟩:=eh (aF u);exact λb g j l=>m _ _ _ _ q t b g j l) _ _ _ _ i
    rw[p];exact this b g j l
   rcases i with i|⟨R,i⟩
   .exact body i b g j l
   .obtain⟨k,x,v,mem',y,_,_,_,rfl⟩:=Ms i;exact B8 (wr:=List.range R.2.length) y b g j l
def Mu{gZ} n nb:∀f c σ v aQ,(P8 cx n nb gZ f c σ).run=aa (v,aQ)->bW σ aQ:=by
 intro f c σ v aQ d;obtain⟨q,e,g⟩:=bind_some d;obtain⟨rfl,rfl⟩:=eh (aF g);exact λb h i j=>Mt _ _ _ _ _ q e b h i j
def B9(T:P.follows .mixedOrders=true)(hc:fi P cx){G}(U:nZ P G cx)(V:P7 cx){gZ} :
  ∀n nb f B γ mem mem' w g A v,B.G=G->bC B γ mem w->lS γ mem w g A.toList->(DU cx n nb gZ f g mem).run=aa (v,mem') ->
  (∃p W,P.funcs[f]?=aa p/\(p.name == "runtime.NumGoroutine")=false/\p.body=aa W) /\
  Calls P f A w λe w'=>∃d bz,e=.returned d/\bC B bz mem' w'/\Ext B γ mem w bz mem' w'/\cu bz mem' w' v .val [d]:=by
 intro n;induction n with
 | zero=>intro nb f B γ mem mem' w g A v _ _ _ h;cases h
 | succ n ih =>
   intro nb f B γ mem mem' w g A v hG D S h;subst hG;obtain⟨p,c,h1,h2,E⟩:=Mq h;have F:=V f p h1;simp only[XF,h2,gz,DF,vN] at F;have hP:=hc.fns f p h1;refine⟨⟨p,c,hP,F.1,h2⟩,?_⟩;have X:xa P B.G (P8 cx n nb gZ):=by
    intro B' γ σ ao1 w f g A v hG D S hi;obtain⟨q,g1,g2⟩:=bind_some hi;obtain⟨rfl,rfl⟩:=eh (aF g2);obtain⟨k1,k2⟩:=ih _ f B' γ σ.mem q.2 w g A q.1 hG D S g1;exact⟨k1,rfl,k2⟩
   have body:∀{γ mem mem' v},bC B γ mem w->lS γ mem w g A.toList->(Lv cx nb (gZ f) (P8 cx n nb gZ) p c g mem).run=aa (v,mem') ->
     Calls P f A w λe w'=>∃d bz,e=.returned d/\bC B bz mem' w'/\Ext B γ mem w bz mem' w'/\cu bz mem' w' v .val [d]:=by
    intro γ mem mem' v D S h;obtain⟨e,aQ,E,h4,h5,h6⟩:=EI h;subst h6;refine calls_of_wp hP h2 ?_;refine UO T hc U X (Mu _ _) c (λt r=>?_) E (HH D S p.ntmps) λbz a' w' s x f=>?_
    .have:=F.2 t r;have:=JH (by simpa [Nat.blt] using this);omega
    .obtain⟨d,r1,r2⟩:=yT hc s h5;have:a'.defers=[]/\∃I,(results p a'.tmps).run P w'=.ok I w'/\∃d bz,Ending.returned I=.returned d/\bC B bz aQ.mem w'/\Ext B γ mem w bz aQ.mem w'/\cu bz aQ.mem w' v .val [d] :=
      ⟨s.defers,d,r1,d,bz,rfl,s.ok,x,r2⟩
     rcases h4 with rfl|rfl
     .exact this
     .exact this
   rcases E with E|⟨R,E⟩
   .exact body D S E
   .obtain⟨k,x,I,i,hk,h4,h5,J,h6⟩:=Ms E;obtain⟨rfl,rfl⟩:=eh h6;have K:(k.lock<|gY mem).mem=vT _ mem:=F6 k _;have W9:Ext B γ mem w γ (k.lock<|gY mem).mem w:=by rw[K];exact Ext.vT
    have M:∀b z,(k.lock<|gY mem).mem b=aa z->z.lk=true->i b=aa z:=by
     intro b z hb hl;obtain⟨q,y,cI,g4,Y,hq⟩:=Mr h4;obtain⟨e,aQ,g3,_,_,g6⟩:=EI g4;have:=n8 (λf g σ v aQ hi=>Mu n nb f g σ v aQ hi) _ _ _ _ g3;rw[(eh hq).2];exact jX Y b z (by show q.2 b=aa z;rw[g6];exact this b z hb hl) hl
    obtain⟨q,y,cI,g4,Y,hq⟩:=Mr h4;obtain⟨hv1,O⟩:=eh hq;refine(body (by rw[K];exact D.vT) (S.ext W9) g4).mono λe w' hw=>?_;obtain⟨d,WH,rfl,m0,x0,r0⟩:=hw;obtain⟨xs0,u1,u2⟩:=EJ (R:=chT R.2) r0;obtain⟨j,s1,y1,y2⟩:=kn (a:={ tmps:=#[],defers:=[] }) (N:=0) (σ:=gY q.2) ⟨λt=>⟨_,rfl⟩,rfl,rfl,m0⟩ u1 Y;have m1:bC B j i w':=by rw[O];exact s1.ok
    have x1:Ext B γ (k.lock<|gY mem).mem w j i w':=by rw[O];exact x0.trans y1
    have r1:cu j i w' I .val [d]:=by rw[O,hv1];exact(u2 _ _ y2).rep λ_ _ h=>h
    have fin:∀n (ts:Array Value),ts.size=n->n=R.2.length->(∀t,cu j i w' (spread R.1 I t) .val [ts.getD t undef]) ->
      (∀{o sl},(∀t,cu j o w' (sl t) .val [ts.getD t undef])->cu j o w' (Rq R.1 R.2.length sl) .val [d]) ->
      ∃C Q,Ending.returned d=.returned C/\bC B Q (k.rQ false false (List.range R.2.length) (gY mem) x).mem w'/\Ext B γ mem w Q (k.rQ false false (List.range R.2.length) (gY mem) x).mem w' /\
       cu Q (k.rQ false false (List.range R.2.length) (gY mem) x).mem w' (Rq R.1 R.2.length (k.rQ false false (List.range R.2.length) (gY mem) x).bb) .val [C]:=by
     intro n ts hts hn hr Y;have s0:dm B n γ (gY mem) { tmps:=Array.replicate n undef,defers:=[] } w:=⟨λt=>⟨_,rfl⟩,aS,rfl,D⟩;have s1:dm B n j (adA R.1 I i) { tmps:=ts,defers:=[] } w':=⟨hr,hts,rfl,m1⟩;obtain⟨s2,x2⟩:=uX hk s0 s1 (W9.trans x1) (λt r=>by
      have r:¬t<n:=λhlt=>by
       have Z:t∈List.range R.2.length:=Lk.2 ag;have:=B3.2 Z;rw[this] at r;cases r
      rw[TB<|by show ts.size<=t;omega,TB cJ]) (λb z hb Uj=>⟨true,M b _ (by rw[K];simp only[vT,show mem b=aa z from hb,Uj,BF]) rfl⟩) h5
     exact⟨d,j,rfl,s2.ok,x2,Y s2.bb⟩
    obtain⟨BI,L⟩:=R;cases BI with
    | false =>
      refine fin 1 #[d] rfl (gA J).symm (λt=>?_) (λh=>h 0);cases t with
      | zero=>exact r1
      | succ t=>exact⟨_,rfl⟩
    | true =>
      cases I with
      | BI m =>
        obtain⟨l,e1,r2⟩:=r1;obtain⟨q1,q2⟩:=aee r2;obtain rfl:d=.tuple l:=vk e1;have WG:l.size=L.length:=by rw[<-(gA J),q1];simp
        refine fin L.length l WG rfl (λt=>?_) (λ{o sl} h=>⟨l,rfl,?_⟩)
        .show cu j i w' (match nth m t with|some u=>u|none=>.undef) .val _
         cases r:nth m t with
         | none=>exact⟨_,rfl⟩
         | some u =>
           obtain⟨v,g1,g2⟩:=q2 t u r;rw[Tt,<-acW,g1];exact g2
        .have:=aaY l.toList 0 λt v r=>by
          have:=h t;rw[Tt,<-acW,r] at this;rw[BD];exact this
         rwa [show l.toList.length=L.length by rw[<-WG];simp] at this
      | _=>cases J
end
end Go.Ge
namespace Go.Ge
variable [Lp]
open RowKit
section
variable {P:Program} {B:BT} {N:Nat} {γ:Gh} {σ:St} {a:Act} {w:World} {cx:Ctx}
def F9{mem I loc}:∀{A x b},jV w I A x b->lS ⟨I,loc⟩ mem w (Es A x) b:=by
 intro A;induction A with
 | pair t r g d =>
   intro x b h;obtain⟨j,e,rfl,k,l⟩:=h;have:=d l;refine⟨by simp[Es,this.1],λi v y c f=>?_⟩;cases i with
   | zero =>
     obtain rfl:=aF c;obtain rfl:=aF f;exact⟨j,k,rfl⟩
   | succ i=>exact this.2 i v y (by simpa [Es] using c) (by simpa using f)
 | unit=>intro x b h;rw[show b=[] from h];exact⟨rfl,λi v y c=>by cases c⟩
 | _=>intro x b h;exact h.elim
def UQ(h:bC B γ σ.mem w){I'}(i:∀b o,γ.I b o->I' b o)(f:∀b o,B.has b->b<w.heap.size->I' b o):∀{R y u vs},
  cu γ σ.mem w u .many vs->jk σ R (Fz u)=aa y->cu ⟨I',λ_=>af⟩ (λ_=>af) w (BO R y) .many vs:=by
 intro R;induction R with
 | pair t r j g =>
   intro y u vs d c;cases u with
   | mix p q =>
     obtain⟨v,e,rfl,k,l⟩:=d;simp only[Fz,jk] at c;split at c
     .rename_i x z m n;obtain rfl:=aF c;obtain⟨s,A,C⟩:=LR h i f k m;exact⟨v,e,rfl,⟨s,A,by rw[C]⟩,g l n⟩
     .cases c
   | _=>cases c
 | unit =>
   intro y u vs d c;cases u with
   | mix p q=>cases c
   | nl=>exact d
   | _=>exact d.elim
 | _=>intro y u vs d c;cases u<;>cases c
def P9(i:bC B γ σ.mem w){I'}(j:∀b o,γ.I b o->I' b o)(d:∀b o,B.has b->b<w.heap.size->I' b o){R y v val}
  (k:cu γ σ.mem w v .val [val]) (c:jk σ R (zo R v)=aa y):lR w I' R y val:=by
 have many:∀{R y},(rS R y=.BI (BO R y))->(jk σ R (match v with|.BI v=>Fz v|v=>[v])=aa y)->(∀t,R≠.pair t .unit)->lR w I' R y val:=by
  intro R y e c f;unfold lR;rw[e];have one:∀{v'},jk σ R [v']=aa y->False:=by
   intro v' h;cases R with
   | pair t r =>
     simp only[jk] at h;split at h
     .rename_i l;cases r with
      | unit=>exact f t rfl
      | _=>cases l
     .cases h
   | _=>cases h
  cases v with
  | BI u =>
    obtain⟨g,m,n⟩:=k;exact⟨g,m,UQ i j d n c⟩
  | _=>exact(one c).elim
 cases R with
 | pair t r =>
   cases r with
   | unit =>
     simp only[zo,jk] at c;split at c
     .rename_i x z p C;obtain rfl:=aF c;obtain⟨q,s,A⟩:=LR i j d k p;exact⟨q,s,by rw[A]⟩
     .cases c
   | _=>exact many rfl (by cases v<;>exact c) Bz
 | _=>exact many rfl (by cases v<;>exact c) Bz
def R5(s:P.follows .mixedOrders=true)(K:fi P cx){G}(t:nZ P G cx)(j:P7 cx){gZ n f A R spec}
  {fn code} (u:find cx.fns f=aa fn) (l:fn.body=aa code) (h:∀x y,spec x=aa y->sem cx n gZ f A R x=aa y):Holds P G f ⟨A,R,spec⟩ where
 body:=by
  have z:=j f fn u;simp only[XF,gz,DF] at z;exact⟨fn,code,K.fns f fn u,z.1,l⟩
 calls:=by
  intro I w C x y L M m p;obtain⟨r,h1,q⟩:=bind_some (h x y p);obtain⟨v,mem'⟩:=r;have O:jk (gY mem') R (zo R v)=aa y:=by
   split at q
   .rename_i X E;obtain rfl:=aF q;exact E
   .cases q
  have S:bC (oH G w.heap.size) ⟨I,λ_=>af⟩ (λ_=>af) w :=
   { tf:=λb Q g=>by
      obtain⟨o,h1,q⟩:=M b Q g;exact⟨λd=>by have:=r5.1 d;have:=(wL.1 h1).1;omega,o,h1,q⟩
     base:=bX _
     boxes:=λb T d=>by cases d
     inj:=λb c D k Y d=>absurd rfl d
     fresh:=λb D k d=>absurd rfl d
     te:=L
     sep:=λb T D k U d=>by cases d }
  obtain⟨_,i⟩:=B9 s K t j n 0 f _ ⟨I,λ_=>af⟩ _ mem' w _ C v rfl S (F9 m) h1;refine i.mono λe w' V=>?_;obtain⟨F,bz,rfl,m1,J,W⟩:=V;refine⟨F,λb o=>bz.I b o\/(w.heap.size<=b/\b<w'.heap.size),rfl,J.below.below,λb o hi=>.inl (J.I b o hi),λb o hi=>?_,λb o hi hn=>?_,P9 m1 (λb o hi=>.inl hi) (λb o h1 q=>.inr ⟨r5.1 h1,q⟩) W O⟩
  .rcases hi with hi|hi
   .exact m1.te b o hi
   .exact hi.2
  .rcases hi with hi|hi
   .exact r5.1 ((J.qV b o hi).resolve_left hn)
   .exact hi.1
def Ga:List Nat->Nat->Nat->Option (Nat×Nat)
 | [],_,_=>af
 | blk::r,k,b=>if b=eZ k then aa (blk,0) else Ga r (k+1) b
def Jf{i j}(h:eZ i=eZ j):i=j:=by unfold eZ at h;omega
def C7:∀{b k j blk},b[j]?=aa blk->Ga b k (eZ<|k+j)=aa (blk,0):=by
 intro b;induction b with
 | nil=>intro k j blk h;cases h
 | cons x r c =>
   intro k j blk h;cases j with
   | zero=>obtain rfl:=aF h;simp[Ga]
   | succ j =>
     simp only[Ga];rw[aJ (λe=>by have:=Jf e;omega),show k+(j+1)=k+1+j by omega];exact c (by simpa using h)
def ru:∀{c k b blk q},Ga c k b=aa (blk,q)->∃j,c[j]?=aa blk/\b=eZ (k+j):=by
 intro c;induction c with
 | nil=>intro k b blk q h;cases h
 | cons x r d =>
   intro k b blk q h;simp only[Ga] at h;split at h
   .rename_i e;obtain⟨rfl,_⟩:=eh (aF h);exact⟨0,rfl,e⟩
   .obtain⟨j,f,g⟩:=d h;exact⟨j+1,by simpa using f,by rw[g];congr 1;omega⟩
def Zn{I}:∀{U u b k},sa w I U u b->∀{j blk},b[j]?=aa blk ->
  ∃c,Ho U u k (eZ<|k+j)=aa c/\c.aM=0:=by
 intro U;induction U with
 | pair t U g f =>
   intro u b k h j blk d;obtain⟨n,r,rfl,o,i⟩:=h;cases j with
   | zero=>exact⟨{ val:=.data t u.1,tid:=0,buf:=false,ro:=false,lk:=false,aM:=0 },by simp[Ho],rfl⟩
   | succ j =>
     obtain⟨c,l,m⟩:=f i (by simpa using d);refine⟨c,?_,m⟩;simp only[Ho];rw[iJ (λe=>by have:=Jf e;omega),show k+(j+1)=k+1+j by omega];exact l
 | unit=>intro u b k h j blk d;rw[show b=[] from h] at d;cases d
 | _=>intro u b k h;exact h.elim
def C8{I}:∀{U u e k b f},sa w I U u e->Ho U u k b=aa f ->
  ∃j c t,∃x,e[j]?=aa c/\b=eZ (k+j)/\f={ val:=.data t x,tid:=0,buf:=false,ro:=false,lk:=false,aM:=0 }/\adR w I t x c:=by
 intro U;induction U with
 | pair t U l g =>
   intro u e k b f h d;obtain⟨m,r,rfl,n,o⟩:=h;simp only[Ho] at d;cases i:Nat.beq b _ with
   | true =>
     rw[i] at d;exact⟨0,m,t,u.1,rfl,gA i,(aF d).symm,n⟩
   | false =>
     rw[i] at d;obtain⟨j,c,p,q,s,v,y,z⟩:=g o d;exact⟨j+1,c,p,q,by simpa using s,by rw[v];congr 1;omega,y,z⟩
 | unit=>intro u e k b f h d;cases d
 | _=>intro u e k b f h;exact h.elim
def XJ{mem}:∀{ps A U x g l k},PW w γ.I ps A U x g l ->
  (∀j b,l[j]?=aa b->∃m,mem (eZ<|k+j)=aa m/\m.aM=0/\γ.loc (eZ<|k+j)=aa (b,0))->lS γ mem w (IU ps A U x k) g:=by
 intro ps;induction ps with
 | nil =>
   intro A U x g l k h _;obtain⟨_,_,rfl,_⟩:=h;exact⟨rfl,λi v y c=>by cases c⟩
 | cons p ps q =>
   intro A U x g l k h n;cases p with
   | false =>
     cases A<;>first|(exact h.elim)|skip
     obtain⟨s,d,rfl,o,t⟩:=h;have:=q t n;refine⟨by simp[IU,this.1],λi v y c e=>?_⟩;cases i with
     | zero =>
       obtain rfl:=aF c;obtain rfl:=aF e;exact⟨s,o,rfl⟩
     | succ i=>exact this.2 i v y (by simpa [IU] using c) (by simpa using e)
   | true =>
     cases U<;>first|(exact h.elim)|skip
     obtain⟨b,d,r,rfl,rfl,o⟩:=h;have:=q o λj f u=>by
      have:=n (j+1) f (by simpa using u);rw[show k+_=k+1+j by omega] at this;exact this
     refine⟨by simp[IU,this.1],λi v y c e=>?_⟩;cases i with
     | zero =>
       obtain rfl:=aF c;obtain rfl:=aF e;obtain⟨m,z,C,D⟩:=n 0 b rfl;exact⟨⟨_,rfl,rfl⟩,m,z,DT C.symm,λ_=>⟨b,0,D,rfl⟩⟩
     | succ i=>exact this.2 i v y (by simpa [IU] using c) (by simpa using e)
def Mv{mem g L WH w0 I}(A:bC B γ mem w)(M:Ext L WH g w0 γ mem w):∀{U u y k i},sa w0 I U u i ->
  (∀j c,i[j]?=aa c->(∃l,g (eZ<|k+j)=aa l/\l.aM=0)/\WH.loc (eZ<|k+j)=aa (c,0))->FA mem U k=aa y ->
  sa w γ.I U y i/\∀c∈i,∀o,¬γ.I c o:=by
 intro U;induction U with
 | pair t U O q =>
   intro u y k i h s f;obtain⟨c,r,rfl,h1,Q⟩:=h;simp only[FA] at f;split at f
   case h_2=>cases f
   rename_i l n;cases d:(Nat.beq l.aM 0&&!l.buf&&!l.ro) with
   | false=>rw[d] at f;cases f
   | true =>
     rw[d] at f;simp only[gz,DF] at d;split at f
     case h_2=>cases f
     rename_i x1 u1 R S;obtain rfl:=aF f;obtain⟨⟨v,C,T⟩,D⟩:=s 0 c rfl;rw[Fm] at C D;obtain⟨V,E,q2,W⟩:=M.boxes _ v C;rw[n] at E;obtain rfl:=aF E;have x:=(W<|by rw[(gA d.1.1),T]).1;rw[D] at x;obtain⟨X,Y⟩:=q Q (λj m Z=>by
      have:=s (j+1) m (by simpa using Z);rw[show k+_=k+1+j by omega] at this;exact this) S
     have p:=A.boxes _ l n;unfold ew at p;rw[d.1.2] at p;obtain⟨m,cap,z,tid,fr,F,a2,a3,G,J⟩:=p;rw[x] at F;obtain⟨rfl,_⟩:=eh (aF F);rw[(LU R)] at J;refine⟨⟨c,r,rfl,⟨z,tid,fr,a2,a3,J⟩,X⟩,λb e o K=>?_⟩;rcases fI.1 e with rfl|e
     .have:=(A.sep _ l b 0 o n x K).1;rw[d.2] at this;cases this
     .exact Y b e o K
 | unit =>
   intro u y k i h s f;exact⟨h,λb e=>by rw[show i=[] from h] at e;cases e⟩
 | _=>intro u y k i h;exact h.elim
def OS(O:P.follows .mixedOrders=true)(hc:fi P cx){G}(S:nZ P G cx)(p:P7 cx){gZ n f ps A U R spec}
  {fn code} (T:find cx.fns f=aa fn) (D:fn.body=aa code) (h:∀x y,spec x=aa y->ake cx n gZ f ps A U R x=aa y):RB P G f ⟨ps,A,U,R,spec⟩ where
 body:=by
  have V:=p f fn T;simp only[XF,gz,DF] at V;exact⟨fn,code,hc.fns f fn T,V.1,D⟩
 calls:=by
  intro I w s M x u y hI hG hGb E d hnd F J;obtain⟨r,h1,K⟩:=bind_some (h _ y J);obtain⟨v,mem'⟩:=r;obtain⟨y1,y2⟩:=y;have hg:∃bL,gD (gY mem') R (zo R v)=aa (y1,bL)/\FA bL.mem U 0=aa y2:=by
   split at K
   .rename_i y' bL hy';split at K
    .rename_i u' hu';obtain⟨rfl,rfl⟩:=eh (aF K);exact⟨bL,hy',hu'⟩
    .cases K
   .cases K
  obtain⟨bL,hg1,hg2⟩:=hg;have C:∀j blk,M[j]?=aa blk->(∃L,Ho U u 0 _=aa L/\L.aM=0)/\Ga M 0 _=aa (blk,0):=λj blk Z=>⟨Zn d Z,C7 Z⟩;have hm:bC ⟨w.heap.size,_,G⟩ ⟨I,Ga M 0⟩ (Ho U u 0) w :=
   { tf:=λb Q g=>by
      obtain⟨o,h1,K⟩:=hG b Q g;refine⟨λl=>?_,o,h1,K⟩;have:=(wL.1 h1).1;rcases l with l|l
      .exact absurd this (by have hb':w.heap.size<=b:=l;omega)
      .exact hGb b Q g l
     base:=bX _
     boxes:=λb L l=>by
      obtain⟨j,blk,t,z,g1,g2,g3,g4⟩:=C8 d l;subst g3;subst g2;obtain⟨cur,tid,fr,k1,k2,k3⟩:=g4;exact⟨blk,0,cur,tid,fr,C7 g1,k1,k2,.inl rfl,k3⟩
     inj:=λb c blk k k' l hc' W e2=>by
      obtain⟨i,i1,i2⟩:=ru W;obtain⟨j,j1,j2⟩:=ru e2;have hij:i=j:=by
       have hi:=(hR.1 i1).1;exact(List.getElem?_inj hi hnd).1 (i1.trans j1.symm)
      subst hij;rw[i2,j2]
     fresh:=λb blk k l W=>by
      cases hq:Ho U u 0 b with
      | none=>exact absurd hq l
      | some L =>
        obtain⟨j,LJ,t,z,g1,g2,g3,g4⟩:=C8 d hq;have X:Ga M 0 b=aa (blk,k):=W;rw[g2,C7 g1] at X;obtain⟨rfl,_⟩:=eh (aF X);obtain⟨cur,tid,fr,k1,k2,k3⟩:=g4;exact⟨.inr<|dW g1,(wL.1 k1).1⟩
     te:=hI
     sep:=λb L blk k off l W hi=>by
      obtain⟨j,j1,_⟩:=ru W;exact(F blk (dW j1) off hi).elim }
  have hv:lS ⟨I,Ga M 0⟩ _ w _ s.toList:=XJ E λj blk Z=>by
   obtain⟨⟨L,g1,g2⟩,g3⟩:=C j blk Z;exact⟨L,g1,g2,g3⟩
  obtain⟨_,m⟩:=B9 O hc S p n 0 f ⟨w.heap.size,_,G⟩ ⟨I,Ga M 0⟩ _ mem' w _ s v rfl hm hv h1;refine m.mono λe w' hw=>?_;obtain⟨val,bz,rfl,m1,x1,r1⟩:=hw;obtain⟨xs,u1,u2⟩:=EJ r1;have Y:dm ⟨w.heap.size,_,G⟩ 0 bz (gY mem') { tmps:=#[],defers:=[] } w' :=
   { bb:=λt=>⟨_,rfl⟩
     size:=rfl
     defers:=rfl
     ok:=m1 }
  obtain⟨γ2,s1,s2,s3⟩:=kn Y u1 hg1;have xx:=x1.trans s2;obtain⟨k1,k2⟩:=Mv s1.ok xx d C hg2;refine⟨val,γ2.I,rfl,xx.below,xx.I,s1.ok.te,λb o hi hn=>?_,u2 _ _ s3,k1⟩;rcases(xx.qV b o hi).resolve_left hn with q|q
  .exact q
  .exact(k2 b q o hi).elim
def UR:∀{U k i b aM},(Lw U k)[i]?=aa (b,aM)->b=eZ (k+i)/\aM=0:=by
 intro U;induction U with
 | pair t U d c =>
   intro k i b aM h;cases i with
   | zero=>obtain⟨rfl,rfl⟩:=eh (aF h);exact⟨rfl,rfl⟩
   | succ i=>obtain⟨e,f⟩:=c (k:=k+1) (i:=i) (by simpa [Lw] using h);exact⟨by rw[e];congr 1;omega,f⟩
 | _=>intro k i b aM h;cases h
def C9{I}:∀{U u b k},sa w I U u b->(Lw U k).length=b.length:=by
 intro U;induction U with
 | pair t U d c=>intro u b k h;obtain⟨f,r,rfl,g,e⟩:=h;simp[Lw,c e]
 | unit=>intro u b k h;rw[show b=[] from h];rfl
 | _=>intro u b k h;exact h.elim
def aaZ{mem I}:∀{U u y k e},sa w I U u e->FA mem U k=aa y->∀{j blk},e[j]?=aa blk->∃d,mem (eZ<|k+j)=aa d/\d.aM=0:=by
 intro U;induction U with
 | pair t U l g =>
   intro u y k e h b j blk f;obtain⟨o,r,rfl,p,m⟩:=h;simp only[FA] at b;split at b
   case h_2=>cases b
   rename_i d i;cases c:(Nat.beq d.aM 0&&!d.buf&&!d.ro) with
   | false=>rw[c] at b;cases b
   | true =>
     rw[c] at b;simp only[gz] at c;split at b
     case h_2=>cases b
     rename_i q s v n;cases j with
     | zero=>exact⟨d,i,gA c.1.1⟩
     | succ j =>
       have:=g m n (j:=j) (by simpa using f)
       rwa [show k+1+j=k+(j+1) by omega] at this
 | unit=>intro u y k e h b j blk f;rw[show e=[] from h] at f;cases f
 | _=>intro u y k e h;exact h.elim
def Mw k:eZ k≠jR:=by unfold eZ jR;omega
def OT(aiR:P.follows .mixedOrders=true)(hc:fi P cx){G}(aaL:nZ P G cx)(S:P7 cx){gZ n f T F t A U R spec}
  {fn code} (hfn:find cx.fns f=aa fn) (akH:fn.body=aa code) (h:∀x y,spec x=aa y->akf cx n gZ f T F t A U R x=aa y):kR P G f ⟨T,t,F,A,U,R,spec⟩ where
 body:=by
  have hok:=S f fn hfn;simp only[XF,gz,DF] at hok;exact⟨fn,code,hc.fns f fn hfn,hok.1,akH⟩
 calls:=by
  intro I w V rest l J r x u y hI hG hGb aef Us W d hnd akI akJ;obtain⟨q,h1,h2⟩:=bind_some (h _ y akJ);obtain⟨v,mem'⟩:=q;obtain⟨y1,y2⟩:=y;have hg:∃bL,gD (gY mem') R (zo R v)=aa (y1,bL)/\FA bL.mem U 0=aa y2:=by
   split at h2
   .rename_i y' bL hy';split at h2
    .rename_i u' hu';obtain⟨rfl,rfl⟩:=eh (aF h2);exact⟨bL,hy',hu'⟩
    .cases h2
   .cases h2
  obtain⟨bL,hg1,hg2⟩:=hg;obtain⟨hnb,amf⟩:=ada.1 hnd
  let loc:Nat->Option (Nat×Nat):=λb=>if b=jR then aa (l,0) else Ga J 0 b
  have Zo:loc jR=aa (l,0):=aN rfl;have p:∀b,b≠jR->loc b=Ga J 0 b:=λb e=>aJ e;have m:Rr T F t U r u jR=aa (WV T F t U r):=by simp[Rr]
  have s:∀b,b≠jR->Rr T F t U r u b=Ho U u 0 b:=λb e=>by unfold Rr;rw[iJ e];rfl
  have K:∀j l,J[j]?=aa l->(∃X,Rr T F t U r u (eZ<|0+j)=aa X/\X.aM=0)/\loc (eZ<|0+j)=aa (l,0):=λj l hj=>by
   rw[s _<|Mw _,p _ (Mw _)];exact⟨Zn d hj,C7 hj⟩
  have L:∀b k c,loc b=aa (k,c)->(b=jR/\k=l)\/(b≠jR/\Ga J 0 b=aa (k,c)):=λb k c Y=>by
   by_cases e:b=jR
   .subst e;rw[Zo] at Y;obtain⟨rfl,_⟩:=eh (aF Y);exact .inl ⟨rfl,rfl⟩
   .rw[p b e] at Y;exact .inr ⟨e,Y⟩
  have M:∀b k c,loc b=aa (k,c)->k∈l::J:=λb k c Y=>by
   rcases L b k c Y with ⟨_,rfl⟩|⟨_,Y⟩
   .exact qT ..
   .obtain⟨j,j1,_⟩:=ru Y;exact vK _ (dW j1)
  have hm:bC ⟨w.heap.size,(·∈l::J),G⟩ ⟨I,loc⟩ (Rr T F t U r u) w :=
   { tf:=λb Q g=>by
      obtain⟨o,h1,h2⟩:=hG b Q g;refine⟨λC=>?_,o,h1,h2⟩;have:=(wL.1 h1).1;rcases C with C|C
      .exact absurd this (by have hb':w.heap.size<=b:=C;omega)
      .exact hGb b Q g C
     base:=bX _
     boxes:=λb X C=>by
      by_cases e:b=jR
      .subst e;rw[m] at C;obtain rfl:=aF C;obtain⟨cur,tid,fr,cs,k1,k2,k3,k4,k5⟩:=W;refine⟨l,0,cur,tid,fr,Zo,k1,k2,k3,cs,_,k4,k5,_,[],rfl,⟨_,rfl,?_,λi b aM D=>?_⟩,rfl⟩
       .simp[C9 d]
       .have hlt:i<J.length:=by have:=(hR.1 D).1;rwa [C9 d] at this
        obtain⟨rfl,rfl⟩:=UR D;obtain⟨⟨X,g1,g2⟩,g3⟩:=K i J[i] (fX hlt);exact⟨X,g1,pF _,λ_=>⟨J[i],0,g3,by simp[hlt]⟩⟩
      .rw[s b e] at C;obtain⟨j,LJ,t',z,g1,g2,g3,g4⟩:=C8 d C;subst g3;subst g2;obtain⟨cur,tid,fr,k1,k2,k3⟩:=g4;exact⟨LJ,0,cur,tid,fr,by rw[show(⟨I,loc⟩:Gh).loc _=_ from p _ e];exact C7 g1,k1,k2,.inl rfl,k3⟩
     inj:=λb c k q q' C hc' Z e2=>by
      rcases L b k q Z with ⟨rfl,rfl⟩|⟨_,l1⟩
      .rcases L c _ q' e2 with ⟨rfl,_⟩|⟨_,l2⟩
       .rfl
       .obtain⟨j,j1,_⟩:=ru l2;exact absurd (dW j1) hnb
      .rcases L c k q' e2 with ⟨rfl,rfl⟩|⟨_,l2⟩
       .obtain⟨j,j1,_⟩:=ru l1;exact absurd (dW j1) hnb
       .obtain⟨i,i1,i2⟩:=ru l1;obtain⟨j,j1,j2⟩:=ru l2;have hij:i=j:=by
         have D:=(hR.1 i1).1;exact(List.getElem?_inj D amf).1 (i1.trans j1.symm)
        subst hij;rw[i2,j2]
     fresh:=λb k q C Z=>by
      refine⟨.inr<|M b k q Z,?_⟩;rcases L b k q Z with ⟨rfl,rfl⟩|⟨e,l1⟩
      .obtain⟨cur,tid,fr,cs,k1,_⟩:=W;exact(wL.1 k1).1
      .rw[s b e] at C;cases hq:Ho U u 0 b with
       | none=>exact absurd hq C
       | some X =>
         obtain⟨j,LJ,t',z,g1,g2,g3,g4⟩:=C8 d hq;rw[g2,C7 g1] at l1;obtain⟨rfl,_⟩:=eh (aF l1);obtain⟨cur,tid,fr,k1,k2,k3⟩:=g4;exact(wL.1 k1).1
     te:=hI
     sep:=λb X k q off C Z D=>(akI k (M b k q Z) off D).elim }
  have hv:lS ⟨I,loc⟩ (Rr T F t U r u) w (.ptr jR 0 []::Es A x) V.toList:=by
   have:=F9 (mem:=Rr T F t U r u) (loc:=loc) Us;rw[aef];refine⟨by simp[this.1],λi v y hv hy=>?_⟩;cases i with
   | zero =>
     obtain rfl:=aF hv;obtain rfl:=aF hy;exact⟨⟨_,rfl,rfl⟩,_,m,bX _,λ_=>⟨l,0,Zo,rfl⟩⟩
   | succ i=>exact this.2 i v y (by simpa using hv) (by simpa using hy)
  obtain⟨_,O⟩:=B9 aiR hc aaL S n 0 f ⟨w.heap.size,_,G⟩ ⟨I,loc⟩ _ mem' w _ V v rfl hm hv h1;refine O.mono λe w' hw=>?_;obtain⟨val,bz,rfl,m1,x1,r1⟩:=hw;obtain⟨xs,u1,u2⟩:=EJ r1;have amg:dm ⟨w.heap.size,_,G⟩ 0 bz (gY mem') { tmps:=#[],defers:=[] } w' :=
   { bb:=λt=>⟨_,rfl⟩
     size:=rfl
     defers:=rfl
     ok:=m1 }
  obtain⟨γ2,s1,s2,s3⟩:=kn amg u1 hg1;have xx:=x1.trans s2;obtain⟨k1,k2⟩:=Mv s1.ok xx d K hg2;have E:bL.mem jR=aa (WV T F t U r):=jX hg1 _ _ (Mt n 0 f _ _ _ h1 jR _ m rfl) rfl;obtain⟨uS,q1,q2,q3⟩:=xx.boxes _ _ m;rw[E] at q1;obtain rfl:=aF q1;have hl2:γ2.loc jR=aa (l,0):=(q3 rfl).1.trans Zo;have hat:=s1.ok.boxes _ _ E;obtain⟨LJ,W1,cur,tid,fr,a1,a2,a3,a4,c1,c2,a5,a6,c3,c4,a7,⟨arr,a8,a10,a11⟩,a9⟩:=hat;obtain rfl:c4=[]:=a9;rw[hl2] at a1;obtain⟨rfl,rfl⟩:=eh (aF a1);have amh:arr=(J.map λb=>Value.pointer (aa ⟨b,0,af⟩)).toArray:=by
   apply Array.ext';apply DE;intro i;have hlen:arr.toList.length=J.length:=by rw[<-C9 (k:=0) d];simpa using a10
   by_cases D:i<J.length
   .have hci:i<(Lw U 0).length:=by rw[C9 d];exact D
    obtain⟨Z,e2⟩:=UR (fX hci);have hof:=a11 i (eZ<|0+i) 0 ((fX hci).trans<|congrArg aa<|Prod.ext Z e2);obtain⟨X,b1,b2⟩:=aaZ d hg2 (fX D);obtain⟨k,c,b3,b4⟩:=bk b1 b2 hof;obtain⟨⟨FQ,b5,b6⟩,b7⟩:=K i _ (fX D);obtain⟨P4,b8,b9,b10⟩:=xx.boxes _ FQ b5;rw[b1] at b8;obtain rfl:=aF b8;rw[(b10<|by rw[b2,b6]).1] at b3;have b3':loc (eZ<|0+i)=aa (k,c):=b3;rw[b7] at b3';obtain⟨rfl,_⟩:=eh (aF b3');simp[D] at b4⊢;exact b4
   .rw[yH ag,yH cJ]
  refine⟨val,γ2.I,rfl,xx.below,xx.I,s1.ok.te,λb o D hn=>?_,u2 _ _ s3,k1,cur,tid,fr,c1,a2,a3,a4,by rw[a5,a7,a8,amh,vl],a6⟩;rcases(xx.qV b o D).resolve_left hn with q|q
  .exact q
  .rcases fI.1 q with rfl|q
   .have:=(s1.ok.sep _ _ b 0 o E hl2 D).1;cases this
   .exact(k2 b q o D).elim
end
end Go.Ge
namespace Go.Ge
open RowKit ChangeShapes
def OU{α:Type}(f:α->Nat):List α->Nat
 | []=>0
 | x::r=>f x+OU f r
def Ty.bulk:(t:Ty)->t.den->Nat
 | .int _,_=>1
 | .bool,_=>1
 | .str,s=>List.length (α:=UInt8) s+1
 | .slice e,l=>OU e.bulk l+1
 | .arr _ e,l=>OU e.bulk l
 | .pair a b,x=>a.bulk x.1+b.bulk x.2
 | .unit,_=>0
 | .alt _ _ _,_=>0
 | .BM,_=>0
def Ty.D5:Ty->Bool
 | .slice e=>e.D5
 | .arr _ e=>e.D5
 | .pair a b=>a.D5&&b.D5
 | .alt _ _ _=>false
 | .BM=>false
 | _=>true
structure Mx {H:Type} (bulk:DataW H->Nat) (all:List (DataW H)->Nat):Prop where
 lit:∀l,1<=bulk (.lit l)
 str:∀s,bulk (.lit<|.string s)=s.length+1
 nil:1<=bulk .nil
 slice:∀e s,bulk (.slice e s)=all e+all s+1
 agg:∀p,bulk (.agg p)=all p+1
 none:all []=0
 cons:∀d r,all (d::r)=bulk d+all r
def Da{α c:Type}{f:α->Option c}:∀{l:List α} {ys},l.mapM f=aa ys->ys.length=l.length/\∀(i:Nat) x,l[i]?=aa x->f x=ys[i]?:=by
 intro l;induction l with
 | nil=>intro ys h;obtain rfl:=aF (by simpa using h);exact⟨rfl,λi x b=>by cases b⟩
 | cons a l d =>
   intro ys h;rw[Za] at h;obtain⟨y,e,g⟩:=BC.1 h;obtain⟨j,k,m⟩:=BC.1 g;obtain rfl:y::j=ys:=aF m;obtain⟨n,o⟩:=d k;refine⟨by simp[n],λi x b=>?_⟩;cases i with
   | zero=>obtain rfl:=aF b;exact e
   | succ i=>exact o i x (by simpa using b)
def Jg{α e:Type}{R:Nat->α->e->Prop}:∀{ys:List e} {k},(∀i y,ys[i]?=aa y->∃x,R (k+i) x y)->∃d:List α,d.length=ys.length/\∀i x y,d[i]?=aa x->ys[i]?=aa y->R (k+i) x y:=by
 intro ys;induction ys with
 | nil=>intro k _;exact⟨[],rfl,λi x y h=>by cases h⟩
 | cons y ys f =>
   intro k h;obtain⟨x,g⟩:=h 0 y rfl;obtain⟨d,j,l⟩:=f λi y m=>by
    have:=h (i+1) y (by simpa using m)
    rwa [show k+_=k+1+i by omega] at this
   refine⟨x::d,by simp[j],λi n o b c=>?_⟩;cases i with
   | zero=>obtain rfl:=aF b;obtain rfl:=aF c;exact g
   | succ i =>
     rw[show k+_=k+1+i by omega];exact l i n o (by simpa using b) (by simpa using c)
def Zp{α β}{f:α->Nat}{g:β->Nat}:∀{b ys},b.length=ys.length->(∀(i:Nat) x y,b[i]?=aa x->ys[i]?=aa y->f x<=g y)->OU f b<=OU g ys:=by
 intro b;induction b with
 | nil=>intro ys _ _;apply pF
 | cons x b d =>
   intro ys c h;cases ys with
   | nil=>cases c
   | cons y ys =>
     have k:=h 0 x y rfl rfl;have l:=d (by simpa using c) λi x y e j=>h (i+1) x y (by simpa using e) (by simpa using j);simp only[OU];omega
section
variable {H:Type} {enc:TypeId×Value->H} {P:Program} {w:World} {held:Bool} {bulk:DataW H->Nat} {all:List (DataW H)->Nat}
def Zq(b:Mx bulk all){β}(f:β->DataW H):∀l,all (l.map f)=OU (λy=>bulk (f y)) l:=by
 intro l;induction l with
 | nil=>exact b.none
 | cons y l c=>rw[TP,b.cons,c];rfl
def old(w:World):Nat->Nat->Prop:=λb _=>b<w.heap.size
def Jh{a n cs}(h:w.cells? 0 a n=aa cs):cs.length=n/\∀j,j<n->w.cell? (a.add j)=cs[j]?:=by
 obtain⟨b,c⟩:=Da h;refine⟨by simpa using b,λj d=>c j j ?_⟩;simp[d]
def US{b o v sp}(h:w.cell? ⟨b,o,sp⟩=aa v):b<w.heap.size/\sp=none:=by
 unfold World.cell? at h;split at h
 .rename_i c t f d;refine⟨(wL.1 d).1,?_⟩;split at h
  .cases h
  .rename_i hs;cases sp with
   | none=>rfl
   | some s=>exact absurd rfl hs
 .cases h
def aeg(q:Mx bulk all):∀{t:Ty},t.D5=true ->
  (∀{fuel tid:Nat} {cs:List Value} {d:DataW H} {ps:List MemPlace},Den P t tid->DataW.trod enc P w 0 (λ_=>true) held fuel tid cs=aa (d,ps)->∃x:t.den,bH w (old w) t x cs/\t.bulk x<=bulk d) /\
  (∀{fuel off:Nat} {fs:List Field} {cs:List Value} {l:List (DataW H×List MemPlace)},rN P t off fs->(fs.mapM λf=>DataW.trod enc P w 0 (λ_=>true) held fuel f.type ((cs.drop f.offset).take<|P.cellsOf f.type))=aa l ->
   cs.length=off+t.size->∃x:t.den,bH w (old w) t x (cs.drop off)/\t.bulk x<=all (l.map (·.1))):=by
 intro t;induction t with
 | int k =>
   intro c;refine⟨λ{fuel tid cs d ps} hd h=>?_,λhd=>by simp[rN,gj] at hd⟩;cases fuel with
   | zero=>cases h
   | succ fuel =>
     simp only[DataW.trod,hd.int] at h;split at h<;>first|(exfalso;simp_all;done)|skip
     rename_i k0 k' n X;split at h
     .rename_i G;obtain⟨rfl,rfl⟩:=eh (aF h);injection X with X;injection X with X;subst X
      obtain⟨rfl,K⟩:=G;simp only[Lit.wf,gz,Ae] at K;exact⟨(n:Int),⟨rfl,K.1,K.2⟩,q.lit _⟩
     .cases h
 | bool =>
   intro c;refine⟨λ{fuel tid cs d ps} hd h=>?_,λhd=>by simp[rN,gj] at hd⟩;cases fuel with
   | zero=>cases h
   | succ fuel =>
     simp only[DataW.trod,hd.bool] at h;split at h<;>first|(exfalso;simp_all;done)|skip
     rename_i b _;obtain⟨rfl,rfl⟩:=eh (aF h);exact⟨b,rfl,q.lit _⟩
 | str =>
   intro c;refine⟨λ{fuel tid cs d ps} hd h=>?_,λhd=>by simp[rN,gj] at hd⟩;cases fuel with
   | zero=>cases h
   | succ fuel =>
     simp only[DataW.trod,hd.str] at h;split at h<;>first|(exfalso;simp_all;done)|skip
     rename_i s _;split at h
     .rename_i hs;obtain⟨rfl,rfl⟩:=eh (aF h);refine⟨s.data.toList,⟨?_,?_⟩,?_⟩
      .rfl
      .have:List.length (α:=UInt8) s.data.toList=s.size:=TF;rw[this];exact hs
      .rw[q.str];exact bX _
     .cases h
 | slice e L =>
   intro c;have L:=L c;refine⟨λ{fuel tid cs d ps} hd h=>?_,λhd=>by simp[rN,gj] at hd⟩;obtain⟨Y,Z,M,h3,h4⟩:=hd.slice;cases fuel with
   | zero=>cases h
   | succ fuel =>
     simp only[DataW.trod,Z] at h;split at h<;>first|(exfalso;simp_all;done)|skip
     .obtain⟨rfl,rfl⟩:=eh (aF h);exact⟨([]:List e.den),.inl ⟨⟨af,rfl⟩,rfl⟩,q.nil⟩
     .rename_i e' a O z he;injection he with he;injection he with he;subst he
      split at h
      case isFalse=>cases h
      rename_i G;obtain⟨hc1,hc2,hc3⟩:=G;obtain⟨m,I,Q⟩:=BC.1 h;obtain⟨rest,g3,g4⟩:=El.1 Q;obtain⟨rfl,rfl⟩:=eh g4;simp only[x9] at g3;obtain⟨U,V⟩:=Da I;obtain⟨m1,m2⟩:=Da g3;simp only[Re] at U m1;rw[M.cells] at V m2;by_cases aiJ:z=0
      .subst aiJ;obtain rfl:O=0:=ag;exact⟨([]:List e.den),.inl ⟨⟨aa a,rfl⟩,rfl⟩,by rw[q.slice];simp[Ty.bulk,OU]⟩
      ·
       have hat:∃y,(w.cells? 0 a e.size).bind (DataW.trod enc P w 0 (λ_=>true) held fuel Y)=aa y:=by
        by_cases hlen:O=0
        .have:=m2 0 0 (JI ag);have o:0<rest.length:=ag;rw[fX o] at this;rw[hlen] at this;simp only[BD,adn] at this;exact⟨_,by rw[<-this];simp[Addr.add]⟩
        .have:=V 0 0 (JI ag);have o:0<m.length:=ag;rw[fX o] at this;simp only[adn] at this;exact⟨_,by rw[<-this];simp[Addr.add]⟩
       obtain⟨y,C⟩:=hat;obtain⟨W,hes,_⟩:=BC.1 C;obtain⟨z1,z2⟩:=Jh hes;have z3:=z2 0 h4;rw[fX ag] at z3;have p:a.spot=none:=by
        have:a.add 0=a:=by simp[Addr.add]
        rw[this] at z3;obtain⟨D,off,sp⟩:=a;exact(US z3).2
       obtain⟨D,off,sp⟩:=a;dsimp only at p;subst p;obtain⟨l,E,J⟩:=Jg (R:=λi (x:e.den) (y:DataW H×List MemPlace)=>(∃W:List Value,W.length=e.size /\
         (∀(j:Nat) v,W[j]?=aa v->w.cell? ⟨D,off+i*e.size+j,af⟩=aa v/\old w D (off+i*e.size+j))/\bH w (old w) e x W)/\e.bulk x<=bulk y.1) (ys:=m) (k:=0) λi y hi=>by
        have o:=(hR.1 hi).1;have:=V i i (JI ag);rw[hi] at this;obtain⟨W,q1,q2⟩:=BC.1 this;rw[addr_add] at q1;obtain⟨q3,q4⟩:=Jh q1;obtain⟨x,r1,r2⟩:=L.1 (d:=y.1) (ps:=y.2) M q2;refine⟨x,⟨W,q3,λj v hv=>?_,r1⟩,r2⟩;have hj:=(hR.1 hv).1;have:=q4 j ag;rw[addr_add,hv] at this;rw[BD];exact⟨this,(US this).1⟩
       refine⟨l,.inr ⟨D,off,z,?_,?_,hc3,λi x S=>?_⟩,?_⟩
       .show [Value.slice _ O z]=[Value.slice _ (List.length (α:=e.den) l) z]
        rw[E,U]
       .show List.length (α:=e.den) l<=z
        rw[E,U];exact hc2
       .have A:l[i]?=aa x:=S;have o:=(hR.1 A).1;obtain⟨y,C⟩:∃y,m[i]?=aa y:=⟨_,fX ag⟩;have:=(J i x y A C).1;rw[BD] at this;exact this
       .rw[q.slice,Zq q];have:=Zp (f:=e.bulk) (g:=λy:DataW H×List MemPlace=>bulk y.1) E λi x y S C=>(J i x y S C).2;show OU e.bulk l+1<=_
        omega
 | arr n e L =>
   intro c;have L:=L c;refine⟨λ{fuel tid cs d ps} hd h=>?_,λhd=>by simp[rN,gj] at hd⟩;obtain⟨Y,Z,M,h4⟩:=hd.arr;cases fuel with
   | zero=>cases h
   | succ fuel =>
     simp only[DataW.trod,Z] at h;split at h
     case isFalse=>cases h
     rename_i G;obtain⟨ys,I,Q⟩:=El.1 h;obtain⟨rfl,rfl⟩:=eh Q;obtain⟨U,V⟩:=Da I;simp only[Re] at U;rw[M.cells] at V;obtain⟨l,E,J⟩:=Jg (R:=λi (x:e.den) (y:DataW H×List MemPlace)=>bH w (old w) e x ((cs.drop<|i*e.size).take e.size)/\e.bulk x<=bulk y.1) (ys:=ys) (k:=0) λi y hi=>by
      have o:=(hR.1 hi).1;have:=V i i (JI ag);rw[hi] at this;obtain⟨x,r1,r2⟩:=L.1 (d:=y.1) (ps:=y.2) M this;exact⟨x,by rw[BD];exact r1,r2⟩
     refine⟨l,⟨?_,?_,λi x S=>?_⟩,?_⟩
     .show List.length (α:=e.den) l=n
      rw[E,U]
     .rw[G,hd.cells];rfl
     .have A:l[i]?=aa x:=S;have o:=(hR.1 A).1;obtain⟨y,C⟩:∃y,ys[i]?=aa y:=⟨_,fX ag⟩;have:=(J i x y A C).1;rw[BD] at this;exact this
     .rw[q.agg,Zq q];have:=Zp (g:=λy=>bulk y.1) E λi x y S C=>(J i x y S C).2;show OU e.bulk l<=_
      omega
 | pair a b F T =>
   intro c;simp only[Ty.D5,gz] at c;have F:=F c.1;have T:=T c.2;have chain:∀{fuel off} {fs} {cs:List Value} {l:List _},rN P (.pair a b) off fs->(fs.mapM λf=>DataW.trod enc P w 0 (λ_=>true) held fuel f.type ((cs.drop f.offset).take<|P.cellsOf f.type))=aa l ->
     cs.length=off+(Ty.pair a b).size->∃x,bH w (old w) _ x (cs.drop off)/\(Ty.pair a b).bulk x<=all (l.map (·.1)):=by
    intro fuel off fs cs l hd h hl;obtain⟨f,r,rfl,f1,_,f2,f3,f4⟩:=hd.cons;rw[Za] at h;obtain⟨y,I,Q⟩:=BC.1 h;obtain⟨ys,g3,g4⟩:=BC.1 Q;obtain rfl:y::ys=l:=aF g4;rw[f1,f2.cells] at I;obtain⟨E,p1,p2⟩:=F.1 f2 I;obtain⟨J,q1,q2⟩:=T.2 f4 g3 (by simp only[Ty.size] at hl;omega);refine⟨(E,J),⟨_,_,?_,p1,q1⟩,?_⟩
    .rw[<-Af,Fk]
    .rw[TP,q.cons];show a.bulk E+b.bulk J<=_
     omega
   refine⟨λ{fuel tid cs d ps} hd h=>?_,chain⟩;obtain⟨fs,Z,M,_⟩:=hd.pair;cases fuel with
   | zero=>cases h
   | succ fuel =>
     simp only[DataW.trod,Z] at h;split at h
     case isFalse=>cases h
     rename_i G;obtain⟨ys,I,Q⟩:=El.1 h;obtain⟨rfl,rfl⟩:=eh Q;rw[hd.cells] at G;obtain⟨x,r1,r2⟩:=chain M I (by rw[G,BD]);exact⟨x,by simpa using r1,by rw[q.agg];omega⟩
 | alt u a r F ihr=>intro c;cases c
 | BM=>intro c;cases c
 | unit =>
   intro c;refine⟨λhd=>by simp[Den,gj] at hd,λ{fuel off fs cs l} hd h hl=>?_⟩;exact⟨(),by show cs.drop off=[];rw[List.drop_eq_nil_iff];simp[Ty.size] at hl;omega,pF _⟩
end
end Go.Ge
namespace Go.Ge
open RowKit ChangeShapes WideShapes
def XK(P:Program):Ty->List TypeId->Prop
 | .pair t r,tid::ts=>Den P t tid/\XK P r ts
 | .unit,[]=>True
 | _,_=>False
section
variable {H:Type} {enc:TypeId×Value->H} {P:Program} {w:World} {held:Bool} {bulk:DataW H->Nat} {all:List (DataW H)->Nat}
def UT{t}{f g:Nat}{v x}(h:t.D5=true)(d:Den P t f)(c:Value.okWide P w .any g f v)(p:bH w (old w) t x v.cells.toList):v=cZ t v.cells.toList:=by
 cases t with
 | int k=>obtain⟨n,rfl⟩:=okWide_int d.int c;rfl
 | bool=>obtain⟨b,rfl⟩:=okWide_bool d.bool c;rfl
 | str=>obtain⟨s,rfl⟩:=okWide_string d.str c;rfl
 | slice e=>obtain⟨j,i,_⟩:=d.slice;obtain⟨a,l,m,rfl⟩:=okWide_slice i c;rfl
 | pair a b=>obtain⟨q,i,_⟩:=d.pair;obtain⟨o,rfl,_⟩:=okWide_struct i c;simp[cZ,Ty.isAgg,Value.cells]
 | arr n e =>
   obtain⟨j,i,_⟩:=d.arr;unfold Value.okWide at c;rw[i] at c;obtain⟨o,rfl,_⟩:=c;simp[cZ,Ty.isAgg,Value.cells]
 | unit=>simp[Den,gj] at d
 | alt u a r=>cases h
 | BM=>cases h
def aeh(i:Mx bulk all){base}:∀{A ts vs ds ps},A.D5=true->XK P A ts->DataW.TrodAll enc P w 0 (λ_=>true) held ts vs ds ps ->
  (∀(j:Nat) t v,ts[j]?=aa t->vs[j]?=aa v->Value.okWide P w .any base t v)->∃x,jV w (old w) A x vs/\A.bulk x<=all ds:=by
 intro A;induction A with
 | pair t r n f =>
   intro ts vs ds ps b e h c;simp only[Ty.D5,gz] at b;cases ts with
   | nil=>exact e.elim
   | cons tid ts =>
     obtain⟨k,o⟩:=e;obtain⟨v,g,d,s,p,q,rfl,rfl,rfl,⟨l,u⟩,hs⟩:=trodAll_cons h;obtain⟨x,m,E⟩:=(aeg i b.1).1 k u;obtain⟨y,z,F⟩:=f b.2 o hs λj t v C D=>c (j+1) t v (by simpa using C) (by simpa using D);refine⟨(x,y),⟨v.cells.toList,g,?_,m,z⟩,?_⟩
     .rw[<-UT b.1 k (c 0 tid v rfl rfl) m]
     .rw[i.cons];show t.bulk x+r.bulk y<=_
      omega
 | unit =>
   intro ts vs ds ps b e h c;cases ts with
   | nil =>
     obtain⟨rfl,rfl,rfl⟩:=trodAll_nil h;exact⟨(),rfl,pF _⟩
   | cons tid ts=>exact e.elim
 | _=>intro ts vs ds ps b e;exact e.elim
def OV(i:laidOutB P=true){W g sp}:∀{ts vs ds ps},(∀t∈ts,P.readableRec t=true/\t<P.types.size) ->
  DataW.TrodAll enc P W 0 (λ_=>true) true ts vs ds ps->(∀p∈ps,W.sameAt g p)->(∀p∈ps,sp p.block=true)->DataW.TrodAll enc P g 0 sp true ts vs ds ps:=by
 intro ts;induction ts with
 | nil=>intro vs ds ps _ h _ _;obtain⟨rfl,rfl,rfl⟩:=trodAll_nil h;rfl
 | cons t ts j =>
   intro vs ds ps f h b e;obtain⟨v,k,d,l,p,q,rfl,rfl,rfl,m,n⟩:=trodAll_cons h;refine⟨p,q,WideElems.Trod_stays i (f t<|qT ..).1 (f t<|qT ..).2 m (λx c=>b x (zd _ c)) (λx c=>e x (zd _ c)),?_,rfl⟩;exact j (λt o=>f t (vK _ o)) n (λx c=>b x (Ad _ c)) (λx c=>e x (Ad _ c))
def Ty.ok:(t:Ty)->t.den->Prop
 | .int k,n=>k.min<=(show Int from n)/\(show Int from n)<=k.max
 | .bool,_=>True
 | .str,s=>List.length (α:=UInt8) s<=maxLen
 | .slice e,l=>∀(i:Nat) (x:e.den),(show List e.den from l)[i]?=aa x->e.ok x
 | .arr n e,l=>List.length (α:=e.den) l=n/\∀(i:Nat) (x:e.den),(show List e.den from l)[i]?=aa x->e.ok x
 | .pair a b,x=>a.ok x.1/\b.ok x.2
 | .unit,_=>True
 | .alt _ _ _,_=>True
 | .BM,_=>True
def bH.ok{I}:∀{t x cs},bH w I t x cs->t.ok x:=by
 intro t;induction t with
 | int k=>intro x cs h;exact h.2
 | bool=>intro x cs h;trivial
 | str=>intro x cs h;exact h.2
 | slice e d =>
   intro x cs h i y c;rcases h with ⟨_,h⟩|⟨blk,off,cap,j,l,p,m⟩
   .rw[show x=[] from h] at c;cases c
   .obtain⟨es,_,_,o⟩:=m i y c;exact d o
 | arr n e d=>intro x cs h;exact⟨h.1,λi y c=>d (h.2.2 i y c)⟩
 | pair a b f g=>intro x cs h;obtain⟨q,s,_,j,l⟩:=h;exact⟨f j,g l⟩
 | unit=>intro x cs h;trivial
 | alt u a r=>intro x cs h;trivial
 | BM=>intro x cs h;trivial
def jV.ok{I}:∀{A x b},jV w I A x b->A.ok x:=by
 intro A;induction A with
 | pair t r d c=>intro x b h;obtain⟨cs,rest,_,e,f⟩:=h;exact⟨e.ok,c f⟩
 | unit=>intro x b h;trivial
 | _=>intro x b h;exact h.elim
def aa0(Q:Mx bulk all)(R:laidOutB P=true){m tb:Nat}{g:Func}{s:ChangeSpec}{A spec apart fresh handsOn}
  (n:XK P A g.params.toList) (i:∀t∈g.params.toList,P.readableRec t=true/\t<P.types.size) (r:g.resultTypes=#[tb]) (C:P.underlying tb=aa .bool) (u:s.vars=[])
  (S:∀c,c.length=g.params.toList.length->s.fn H c={ results:=[.lit<|.bool true],args:=c }) {G} (T:Holds P G m ⟨A,.pair .bool .unit,spec⟩)
  {W} (U:Et G W) {base args c gs before} (y:∀(j:Nat) t v,g.params[j]?=aa t->args[j]?=aa v->Value.okWide P W .any base t v)
  (D:DataW.Whole enc P g.params.toList s.vars apart W args.toList c gs before) (f:∀x,A.ok x->A.bulk x<=all (c++gs)->spec x=aa (true,())) (E:A.D5=true:=by rfl) :
  Calls P m args W λe K=>∃v,e=.returned v/\s.post enc P g apart fresh handsOn false W args v K:=by
 have k:=D.lt;have z:=D;obtain⟨p,q,F,L,rfl,V,X⟩:=D;rw[u] at L;obtain⟨rfl,rfl⟩:=trodVars_none L;simp at z k f;obtain⟨x,M,Y⟩:=aeh Q E n F λj t v Z I=>y j t v (by simpa using Z) (by simpa using I);have hlen:∀{ts vs c ps},DataW.TrodAll enc P W 0 (λ_=>true) true ts vs c ps->c.length=ts.length:=by
  intro ts;induction ts with
  | nil=>intro vs c ps h;obtain⟨_,rfl,_⟩:=trodAll_nil h;rfl
  | cons t ts ih=>intro vs c ps h;obtain⟨v,vs',d,ds',p,q,rfl,rfl,rfl,h1,h2⟩:=trodAll_cons h;simp[ih h2]
 have l:=S c (hlen F);refine(T.calls _ W args x _ (λb o h=>h) U M<|f x M.ok Y).mono λe K hw=>?_;obtain⟨v,I',rfl,O,_,_,_,hr⟩:=hw;obtain⟨cs,rfl,I⟩:=hr;obtain rfl:v=.bool true:=by simpa [cZ,Ty.isAgg] using I
 refine⟨_,rfl,c,[],p,[],p,[],z,?_,?_,?_,O.frame _,λh=>by cases h⟩
 .rw[vl,l,r];exact trodAll_mk1 (shut_bool C true)
 .rw[vl,l];exact OV R i F (λx J=>O.same (k x J)) (λx J=>by simpa using k x J)
 .rw[vl,l,u];rfl
end
end Go.Ge
namespace Go.Ge
variable [Lp]
open RowKit
noncomputable def aei(cx:Ctx)(bf:List Nat)(b:List ResultVar)(R:Ty)(c:Code)(σ:St):Option R.den :=
 ((eF cx 0 bf zl c [] σ).bind λr=>bif Nat.beq r.1 1 then((results1 cx r.2 b).bind λv=>match jk (gY r.2.mem) R (zo R v) with
  | some y=>.ret y
  | none=>.fail) else .fail).run
section
variable {P:Program} {cx:Ctx} {bf:List Nat}
def Gb{G}:xa P G zl:=λB γ σ aQ w f b c v _ _ _ h=>by cases h
def Au:∀f b σ v aQ,(zl f b σ).run=aa (v,aQ)->bW σ aQ:=λf b σ v aQ h=>by cases h
def Ends(w:World)(I:Nat->Nat->Prop)(R:Ty)(y:R.den)(e:Ending)(d:World):Prop :=
 ∃v c,e=.returned v/\Below w.heap.size w d/\(∀b o,I b o->c b o)/\(∀b o,c b o->b<d.heap.size)/\(∀b o,c b o->¬I b o->w.heap.size<=b)/\lR d c R y v
def Qa{Q}(g:P.follows .mixedOrders=true)(q:fi P cx){G}(i:nZ P G cx){fn R y c σ γ a w0 w N I}
  (z:∀t∈writes c,t<N) (A:aei cx bf fn.results.toList R c σ=aa y) (h:dm (oH G w0.heap.size) N γ σ a w) (C:Ext (oH G w0.heap.size) ⟨I,λ_=>af⟩ (λ_=>af) w0 γ σ.mem w)
  (D:∀a w,bodyPost P fn (Ends w0 I R y) .ret a w->Q .ret a w):c.wp P Q a w:=by
 obtain⟨r,j,k⟩:=bind_some A;obtain⟨e,aQ⟩:=r;obtain⟨E,F⟩:=ay k;obtain⟨v,J,l⟩:=bind_some F;have K:jk (gY aQ.mem) R (zo R v)=aa y:=by
  split at l
  .rename_i S m;obtain rfl:=aF l;exact m
  .cases l
 refine uY g q i Gb Au c z j h λbz u w' s x f=>?_;obtain⟨d,L,M⟩:=yT q s J;have n:=C.trans x;have key:Ends w0 I R y (.returned d) w':=by
  refine⟨d,λb o=>bz.I b o\/(w0.heap.size<=b/\b<w'.heap.size),rfl,n.below.below,λb o hi=>.inl (n.I b o hi),λb o hi=>?_,λb o hi hn=>?_,P9 (σ:=gY aQ.mem) s.ok (λb o hi=>.inl hi) (λb o j k=>.inr ⟨r5.1 j,k⟩) M K⟩
  .rcases hi with hi|hi
   .exact s.ok.te b o hi
   .exact hi.2
  .rcases hi with hi|hi
   .exact r5.1 ((n.qV b o hi).resolve_left hn)
   .exact hi.1
 have:u.defers=[]/\∃O,(results fn u.tmps).run P w'=.ok O w'/\Ends w0 I R y _ w':=⟨s.defers,d,L,key⟩;have p:e=1:=gA E;subst p;exact D _ _ this
def UU(s:P.follows .mixedOrders=true)(hc:fi P cx){G}(z:nZ P G cx){f tid id1 fn e W R2 R3 o0 o1 ty2}{q:List e.den->St}
  (hP:P.funcs[f]?=aa fn) (M:(fn.name == "runtime.NumGoroutine")=false)
  (A:fn.body=aa (.seq W<|.seq (.seq (.region id1 #[o0,o1] false)<|.cond (.tmp 4) (.seq R2 .ret) .skip)<|.seq R3 .ret))
  (hT:find cx.T tid=aa (.slice e)) (hN:4<fn.ntmps) (hd:∀t∈writes W++(writes R2++writes R3),t<fn.ntmps)
  (g0:o0.guard=af) (d0:o0.dst=aa 3) (p0:o0.op=.move (.tmp 0)) (g1:o1.guard=af) (d1:o1.dst=aa 4) (p1:o1.op=.binOp .eql tid (.tmp 3) (.const<|.slice af 0 0) ty2)
  (h0:∀l,(eF cx 0 bf zl W []<|yc (λ_=>af) [.data (.slice e) l]).run=aa (0,q l)) (hs0:∀l,(q l).bb 0=.data (.slice e) l) (hs3:∀l,(q l).bb 3=.undef) (hs4:∀l,(q l).bb 4=.undef)
  (hA:∀l,aei cx bf fn.results.toList (.pair (.slice e) .unit) (.seq R2 .ret) (q l)=aa (([]:List e.den),()))
  (hB:∀l,fits (len l)=true->aei cx bf fn.results.toList (.pair (.slice e) .unit) (.seq R3 .ret) (q l)=aa (l,())) :
  Holds P G f ⟨.pair (.slice e) .unit,.pair (.slice e) .unit,λx=>bif fits (len (α:=e.den) x.1) then aa x else af⟩ where
 body:=⟨fn,_,hP,M,A⟩
 calls:=by
  intro I w r x y hI hG O p;obtain⟨l,u⟩:=x;change List e.den at l;have C:fits (len l)=true/\y=(l,()):=by
   change (bif fits _ then aa _ else af)=aa y at p;cases V:fits _ with
   | true=>rw[V] at p;exact⟨rfl,(aF p).symm⟩
   | false=>rw[V] at p;cases p
  obtain⟨C,rfl⟩:=C;obtain⟨cs,X,Y,Z,R⟩:=O;obtain rfl:X=[]:=R;obtain⟨eid,amo,_⟩:=(hc.T _ _ hT).slice;have hm:bC (oH G w.heap.size) ⟨I,λ_=>af⟩ _ w :=
   { tf:=λb Q g=>by
      obtain⟨o,h1,h2⟩:=hG b Q g;exact⟨λD=>by have:=r5.1 D;have:=(wL.1 h1).1;omega,o,h1,h2⟩
     base:=bX _
     boxes:=λb bx D=>by cases D
     inj:=λb c S k k' D=>absurd rfl D
     fresh:=λb S k D=>absurd rfl D
     te:=hI
     sep:=λb bx S k off D=>by cases D }
  have hv:lS ⟨I,λ_=>af⟩ (λ_=>af) w [.data (.slice e) l] r.toList:=by
   rw[Y];refine⟨rfl,λi v x hv hx=>?_⟩;cases i with
   | zero=>obtain rfl:=aF hv;obtain rfl:=aF hx;exact⟨cs,Z,rfl⟩
   | succ i=>cases hv
  refine calls_of_wp hP A (wp_seq ?_);have WG:r.size=1:=by have:=congrArg List.length Y;simpa using this
  have hNN:r.size+(fn.ntmps-r.size)=fn.ntmps:=ag;have K:=HH hm hv fn.ntmps;rw[hNN] at K;refine uY s hc z Gb Au W (λt ht=>hd t (zd _ ht)) (h0 l) K λγ1 F J s1 x1 f1=>?_;refine wp_seq (wp_seq<|wp_region_list ?_);have hr0:=s1.bb 0;rw[hs0] at hr0;obtain⟨cs1,hc1,hv1⟩:=ej.1 hr0;have hsl:∃j n m,F.tmps.getD 0 Go.undef=.slice j n m/\(j=af->l=[]):=by
   rcases hc1 with ⟨⟨j,k1⟩,k2⟩|⟨S,off,m,k1,_⟩
   .exact⟨j,0,0,by rw[hv1,k1];rfl,λ_=>k2⟩
   .exact⟨_,_,_,by rw[hv1,k1];rfl,λh=>by cases h⟩
  obtain⟨j,n,m,amq,U⟩:=hsl;have E:∀{d},(q l).bb d=.undef->(q l).put d .undef=q l:=by
   intro d hd0;unfold St.put
   congr 1
   funext t;cases D:Nat.beq t d with
   | true=>obtain rfl:=gA D;exact hd0.symm
   | false=>rfl
  have s2:dm (oH G w.heap.size) fn.ntmps γ1 (q l) (F.put (aa 3)<|.slice j n m) J:=by
   have:=s1.wW (d:=aa 3) (v:=.undef) (val:=.slice j n m) (λk hk=>by cases hk;omega) ⟨_,rfl⟩;rw[show(q l).bt (aa 3) .undef=q l from E (hs3 l)] at this;exact this
  have s3:dm (oH G w.heap.size) fn.ntmps γ1 (q l) ((F.put (aa 3)<|.slice j n m).put (aa 4)<|.bool j.isNone) J:=by
   have:=s2.wW (d:=aa 4) (v:=.undef) (val:=.bool j.isNone) (λk hk=>by cases hk;omega) ⟨_,rfl⟩;rw[show(q l).bt (aa 4) .undef=q l from E (hs4 l)] at this;exact this
  have e3:(F.put (aa 3)<|.slice j n m).eval (.tmp 3)=.slice j n m:=by
   simp[Act.eval,Act.put,s1.size];omega
  have e4:((F.put (aa 3)<|.slice j n m).put (aa 4)<|.bool j.isNone).eval (.tmp 4)=.bool j.isNone:=by
   have:=s2.size;simp only[Act.eval];generalize F.put _ _=a2 at this⊢;simp[Act.put,this,hN]
  unfold wpList;rw[show Region.wanted o0 _=true by unfold Region.wanted;rw[g0]];refine .inl ?_;unfold Oper.wp;have ex0:(execOp F.eval o0).run P J=.ok (.value<|.slice j n m) J:=by
   have:F.eval (.tmp 0)=.slice j n m:=amq;simp only[execOp,p0,this];rfl
  rw[ex0];show wpList P #[o0,o1] _ [o1] _ J
  rw[d0];unfold wpList;rw[show Region.wanted o1 _=true by unfold Region.wanted;rw[g1]];refine .inl ?_;unfold Oper.wp;have ex1:(execOp (F.put (aa 3)<|.slice j n m).eval o1).run P J=.ok (.value<|.bool j.isNone) J:=by
   have aiX:(F.put (aa 3)<|.slice j n m).eval (.const _)=.slice af 0 0:=rfl;have hg:(eqGuard .eql tid (.tmp 3) (.const<|.slice af 0 0) (.slice j n m)<|.slice af 0 0).run P J=.ok () J:=by simp[eqGuard]
   simp only[execOp,p1,e3,aiX,Sem.run_bind,hg,_root_.Go.run_eql_slice_nil J tid eid j n m amo,Result.andThen_ok,Sem.run_pure]
  rw[ex1];simp only[Oper.upon];rw[d1];have L:∀{t},t∈writes R2++writes R3->t∈writes W++_:=λh=>Ad _ h;refine wp_cond_split e4 (λhn=>?_) (λhn=>(wp_skip<|Qa s hc z (λt ht=>hd t (L<|Ad _<|by simpa [writes] using ht)) (hB l C) s3 x1 λa w V=>V))
  .have hl:=U (by simpa using hn);have:=hA l;rw[<-hl] at this;exact Qa s hc z (λt ht=>hd t (L<|zd _<|by simpa [writes] using ht)) this s3 x1 λa w V=>V
noncomputable def aej(cx:Ctx)(bf:List Nat)(b:List ResultVar)(e:Ty)(c:Code)(d:St):Option (List e.den) :=
 ((eF cx 0 bf zl c [] d).bind λr=>bif Nat.beq r.1 1 then((results1 cx r.2 b).bind λv=>match Aj e r.2 v with
  | some x=>.ret x.2.2.2
  | none=>.fail) else .fail).run
def aek(w:World)(I:Nat->Nat->Prop)(e:Ty)(l:List e.den)(q:Ending)(d:World):Prop :=
 ∃v f L,q=.returned v/\lT w I (λ_=>False) d f/\w9 d f e l L v/\∀b c,L=aa (b,c)->w.heap.size<=b
def My{Q}(i:P.follows .mixedOrders=true)(u:fi P cx){G}(j:nZ P G cx){fn e l c σ γ a w0 w N I}
  (F:∀t∈writes c,t<N) (J:aej cx bf fn.results.toList e c σ=aa l) (h:dm (oH G w0.heap.size) N γ σ a w) (K:Ext (oH G w0.heap.size) ⟨I,λ_=>af⟩ (λ_=>af) w0 γ σ.mem w)
  (L:∀a w,bodyPost P fn (aek w0 I e l) .ret a w->Q .ret a w):c.wp P Q a w:=by
 obtain⟨r,M,O⟩:=bind_some J;obtain⟨x,aQ⟩:=r;obtain⟨R,S⟩:=ay O;obtain⟨v,T,n⟩:=bind_some S;split at n
 case h_2=>cases n
 rename_i o y;obtain⟨b,U,bx,z⟩:=o;obtain rfl:=aF n;obtain⟨V,A,C,W,X,D,_⟩:=uW y;refine uY i u j Gb Au c F M h λbz E w' s x f=>?_;obtain⟨d,Y,Z⟩:=yT u s T;have g:=K.trans x;obtain⟨m,he⟩:=PZ s.ok y Z;have key:aek w0 I e z (.returned d) w':=by
  refine⟨d,bz.I,bz.loc b,rfl,⟨⟨g.below.os,g.below.tape,g.below.output,g.below.size,λk hk=>g.below.block k hk⟩,g.I,s.ok.te,λb o hi hn=>r5.1 ((g.qV b o hi).resolve_left hn)⟩,m,λp c hl=>?_⟩;exact r5.1 (s.ok.fresh b p c (by rw[V];simp) hl).1
 have:E.defers=[]/\∃v1,(results fn E.tmps).run P w'=.ok v1 w'/\aek w0 I e z _ w':=⟨s.defers,d,Y,key⟩;have q:_=1:=gA R;subst q;exact L _ _ this
def aa1(q:P.follows .mixedOrders=true)(hc:fi P cx)(r:nZ P dc cx){f tid id1 fn e L R2 R3 o0 o1 ty2}{o:List e.den->St}
 (hP:P.funcs[f]?=aa fn) (E:(fn.name == "runtime.NumGoroutine")=false)
 (s:fn.body=aa (.seq L<|.seq (.seq (.region id1 #[o0,o1] false)<|.cond (.tmp 4) (.seq R2 .ret) .skip)<|.seq R3 .ret))
 (hT:find cx.T tid=aa (.slice e)) (hN:4<fn.ntmps) (hd:∀t∈writes L++(writes R2++writes R3),t<fn.ntmps)
 (g0:o0.guard=af) (d0:o0.dst=aa 3) (p0:o0.op=.move (.tmp 0)) (g1:o1.guard=af) (d1:o1.dst=aa 4) (p1:o1.op=.binOp .eql tid (.tmp 3) (.const<|.slice af 0 0) ty2)
 (h0:∀l,(eF cx 0 bf zl L []<|yc (λ_=>af) [.data (.slice e) l]).run=aa (0,o l)) (hs0:∀l,(o l).bb 0=.data (.slice e) l) (hs3:∀l,(o l).bb 3=.undef) (hs4:∀l,(o l).bb 4=.undef)
 (hA:∀l,aej cx bf fn.results.toList e (.seq R2 .ret) (o l)=aa [])
 (hB:∀l,fits (len l)=true->aej cx bf fn.results.toList e (.seq R3 .ret) (o l)=aa l) :
 pA P f (.clone e):=by
 refine⟨⟨fn,_,hP,E,s⟩,λI w p l hI F M=>?_⟩;obtain⟨cs,O,R,S,G⟩:=F;obtain rfl:O=[]:=G;obtain⟨eid,U,_⟩:=(hc.T _ _ hT).slice;have hm:bC (oH dc w.heap.size) ⟨I,λ_=>af⟩ _ w :=
  { tf:=λb Q g=>g.elim
    base:=bX _
    boxes:=λb bx A=>by cases A
    inj:=λb c J k k' A=>absurd rfl A
    fresh:=λb J k A=>absurd rfl A
    te:=hI
    sep:=λb bx J k off A=>by cases A }
 have hv:lS ⟨I,λ_=>af⟩ (λ_=>af) w [.data (.slice e) l] p.toList:=by
  rw[R];refine⟨rfl,λi v x hv hx=>?_⟩;cases i with
  | zero=>obtain rfl:=aF hv;obtain rfl:=aF hx;exact⟨cs,S,rfl⟩
  | succ i=>cases hv
 refine calls_of_wp hP s (wp_seq ?_);have WG:p.size=1:=by have:=congrArg List.length R;simpa using this
 have hNN:p.size+(fn.ntmps-p.size)=fn.ntmps:=ag;have C:=HH hm hv fn.ntmps;rw[hNN] at C;refine uY q hc r Gb Au L (λt V=>hd t (zd _ V)) (h0 l) C λW y z s1 x1 f1=>?_;refine wp_seq (wp_seq<|wp_region_list ?_);have X:=s1.bb 0;rw[hs0] at X;obtain⟨cs1,hc1,Y⟩:=ej.1 X;have hsl:∃j n m,y.tmps.getD 0 Go.undef=.slice j n m/\(j=af->l=[]):=by
  rcases hc1 with ⟨⟨j,k1⟩,k2⟩|⟨J,off,m,k1,_⟩
  .exact⟨j,0,0,by rw[Y,k1];rfl,λ_=>k2⟩
  .exact⟨_,_,_,by rw[Y,k1];rfl,λh=>by cases h⟩
 obtain⟨j,n,m,Z,K⟩:=hsl;have u:∀{d},(o l).bb d=.undef->(o l).put d .undef=o l:=by
  intro d hd0;unfold St.put
  congr 1
  funext t;cases A:Nat.beq t d with
  | true=>obtain rfl:=gA A;exact hd0.symm
  | false=>rfl
 have s2:dm (oH dc w.heap.size) fn.ntmps W (o l) (y.put (aa 3)<|.slice j n m) z:=by
  have:=s1.wW (d:=aa 3) (v:=.undef) (val:=.slice j n m) (λk hk=>by cases hk;omega) ⟨_,rfl⟩;rw[show(o l).bt (aa 3) .undef=o l from u (hs3 l)] at this;exact this
 have s3:dm (oH dc w.heap.size) fn.ntmps W (o l) ((y.put (aa 3)<|.slice j n m).put (aa 4)<|.bool j.isNone) z:=by
  have:=s2.wW (d:=aa 4) (v:=.undef) (val:=.bool j.isNone) (λk hk=>by cases hk;omega) ⟨_,rfl⟩;rw[show(o l).bt (aa 4) .undef=o l from u (hs4 l)] at this;exact this
 have e3:(y.put (aa 3)<|.slice j n m).eval (.tmp 3)=.slice j n m:=by
  simp[Act.eval,Act.put,s1.size];omega
 have e4:((y.put (aa 3)<|.slice j n m).put (aa 4)<|.bool j.isNone).eval (.tmp 4)=.bool j.isNone:=by
  have:=s2.size;simp only[Act.eval];generalize y.put _ _=a2 at this⊢;simp[Act.put,this,hN]
 unfold wpList;rw[show Region.wanted o0 _=true by unfold Region.wanted;rw[g0]];refine .inl ?_;unfold Oper.wp;have ex0:(execOp y.eval o0).run P z=.ok (.value<|.slice j n m) z:=by
  have:y.eval (.tmp 0)=.slice j n m:=Z;simp only[execOp,p0,this];rfl
 rw[ex0];show wpList P #[o0,o1] _ [o1] _ z
 rw[d0];unfold wpList;rw[show Region.wanted o1 _=true by unfold Region.wanted;rw[g1]];refine .inl ?_;unfold Oper.wp;have ex1:(execOp (y.put (aa 3)<|.slice j n m).eval o1).run P z=.ok (.value<|.bool j.isNone) z:=by
  have aiX:(y.put (aa 3)<|.slice j n m).eval (.const _)=.slice af 0 0:=rfl;have hg:(eqGuard .eql tid (.tmp 3) (.const<|.slice af 0 0) (.slice j n m)<|.slice af 0 0).run P z=.ok () z:=by simp[eqGuard]
  simp only[execOp,p1,e3,aiX,Sem.run_bind,hg,_root_.Go.run_eql_slice_nil z tid eid j n m U,Result.andThen_ok,Sem.run_pure]
 rw[ex1];simp only[Oper.upon];rw[d1];have D:∀{t},t∈writes R2++writes R3->t∈writes L++_:=λh=>Ad _ h;refine wp_cond_split e4 (λhn=>?_) (λhn=>(wp_skip<|My q hc r (λt V=>hd t (D<|Ad _<|by simpa [writes] using V)) (hB l M) s3 x1 λa w hq=>hq))
 .have hl:=K (by simpa using hn);have:=hA l;rw[<-hl] at this;exact My q hc r (λt V=>hd t (D<|zd _<|by simpa [writes] using V)) this s3 x1 λa w hq=>hq
end
end Go.Ge
namespace Go.Ge
variable [Lp]
def cB{S R}{f:S->Option (S⊕R)}{r}:∀k (st:Nat->S),(∀i,i<k->f (st i)=aa (.inl<|st<|i+1))->f (st k)=aa (.inr r)->Loop f (st 0)=aa r:=by
 intro k;induction k with
 | zero=>intro st _ h;rw[aO,h];rfl
 | succ k c =>
   intro st b d;rw[aO,b 0 ag];exact c _ (λi e=>b _ ag) d
def az{i:Nat}(h:i<4611686018427387904):aw .i64 i 1=((i+1:Nat):Int):=by
 unfold aw;simp[IntKind.wrap,IntKind.bits];omega
def se{α}(l:List α)(i:Nat):idx l i=l[i]?:=by
 unfold idx;simp
def aa2{n:Nat}(h:n<=4294967296):fits n=true:=by
 unfold fits;simp;omega
def ai{α}(x y:α):ak true x y=x:=rfl
def ah{α}(x y:α):ak false x y=y:=rfl
def ab{α β} x (f:α->Option β):ae (aa x) f=f x:=rfl
def zy a:br a a=true:=by simp[br]
def xg a:aG a a=true:=by simp[aG]
def aV:nt true=false:=rfl
def aI:nt false=true:=rfl
def aiY{P tys}(h:(tys.all λp=>gj P p.2 false p.1 0 [])=true):∀tid t,find tys tid=aa t->Den P t tid:=λtid t b=>by
 rw[vN] at h;exact h _ (sd b)
def Qb{l t}(h:cU l t=true):t∈l:=B3.1 h
def akK(P:Program)(b:TypeId):Bool:=(match P.underlying b with|some (.pointer _)=>true|some (.func ..)=>true|_=>false)&&(match P.info? b with|some i=>Nat.beq i.size 1&&(match i.zero with|some z=>z.oneCell'|none=>false)|none=>false)
def agO{P uQ}(h:(uQ.all λt=>akK P t)=true):∀tid,cU uQ tid=true->(∀w,(isAgg tid).run P w=.ok false w)/\(∀w,(Go.sizeOf tid).run P w=.ok 1 w)/\∃z,(∀w,(zeroValue tid).run P w=.ok z w)/\z.oneCell'=true:=λtid g=>by
 rw[vN] at h;have:=h tid (Qb g);simp only[akK,gz] at this;obtain⟨f,b⟩:=this;refine⟨?_,?_,?_⟩
 .intro w;split at f
  .rename_i c;simp[isAgg,run_underlying c]
  .rename_i c;simp[isAgg,run_underlying c]
  .cases f
 .intro w;split at b
  .rename_i i d;simp only[gz] at b;have:=gA b.1;simp[Go.sizeOf,typeInfo,d,this]
  .cases b
 .split at b
  .rename_i i d;simp at b;obtain⟨_,e⟩:=b;split at e
   .rename_i z j;exact⟨z,λw=>by simp[zeroValue,typeInfo,d,j],e⟩
   .cases e
  .cases b
def akL(P:Program)(b:TypeId):Bool:=match P.underlying b with|some (.pointer _)=>true|_=>false
def agP{P DI}(h:(DI.all λt=>akL P t)=true):∀tid,cU DI tid=true->∃e,P.underlying tid=aa (.pointer e):=λtid b=>by
 rw[vN] at h;have:=h tid (Qb b);unfold akL at this;split at this
 .rename_i e c;exact⟨e,c⟩
 .cases this
def R6{P G}:∀p∈([]:List (Nat×Rh)),Holds P G p.1 p.2:=λp h=>by cases h
def Mz{P G}:∀p∈([]:List (Nat×TW)),RB P G p.1 p.2:=λp h=>by cases h
def Zr{P}:∀p∈([]:List (Nat×Spc)),pA P p.1 p.2:=λp b=>by cases b
def dF{P f s l}(h:pA P f s)(c:∀p∈l,pA P p.1 p.2):∀p∈(f,s)::l,pA P p.1 p.2:=λp b=>by
 rcases fI.1 b with rfl|b
 .exact h
 .exact c p b
def Qc{α}:∀{l:List (String×α)} {k a},PM l k=aa a->(k,a)∈l
 | [],_,_,h=>by cases h
 | (i,a)::r,k,b,h=>by
   unfold PM at h;by_cases e:i=k
   .rw[dn e] at h;obtain rfl:=e;obtain rfl:=aF h;exact qT ..
   .rw[cm e] at h;exact vK _ (Qc h)
def R7{P G}:∀p∈([]:List (String×Rh)),Ar P G p.1 p.2:=λp h=>by cases h
def MA{P G}:∀p∈([]:List (Nat×Fq)),kR P G p.1 p.2:=λp h=>by cases h
def MB{P G cx}(h:∀p∈cx.TX,Holds P G p.1 p.2)(k:∀p∈cx.Ol,RB P G p.1 p.2)(s:∀p∈cx.PL,pA P p.1 p.2)(v:∀p∈cx.inv,Ar P G p.1 p.2)(q:∀p∈cx.Ri,kR P G p.1 p.2):nZ P G cx :=
 ⟨λf c b=>h _ (sd b),λf c b=>k _ (sd b),λf c b=>s _ (sd b),λn c b=>v _ (Qc b),λf c b=>q _ (sd b)⟩
def agQ{P vO}(h:(vO.all λp=>Om P p.1 p.2)=true):∀tid b,find vO tid=aa b->Om P tid b=true:=λtid b c=>by
 rw[vN] at h;exact h _ (sd c)
def elB(P:Program)(p:Nat×Nat):Bool:=match P.underlying p.1 with|some (.slice e)=>Nat.beq e p.2|_=>false
def aiZ{P els}(h:(els.all λp=>elB P p)=true):∀tid e,find els tid=aa e->P.underlying tid=aa (.slice e):=λtid e b=>by
 rw[vN] at h;have:=h _ (sd b);unfold elB at this;split at this
 .rename_i d c;rw[c,gA this]
 .cases this
def UW{P t i z}(h:P.info? t=aa i)(k:i.zero=aa z) w:(zeroValue t).run P w=.ok z w:=by simp[zeroValue,typeInfo,h,k]
def Gc(I:Nat->Nat->Prop) w:Et dc w:=λb Q h=>h.elim
end Go.Ge
namespace Go.Ge
open RowKit
def Bh c:∀l,-1<=Lib.indexByte l c/\Lib.indexByte l c<l.length:=by
 intro l;induction l with
 | nil=>exact⟨by simp[Lib.indexByte],by simp[Lib.indexByte]⟩
 | cons b r d =>
   unfold Lib.indexByte;split
   .exact⟨aS,by simp only[iE];omega⟩
   .split
    .exact⟨aS,cJ⟩
    .simp;omega
def Zs{P:Program}{f:Nat}{fn}(d:P.funcs[f]?=aa fn)(c:(fn.name == "runtime.NumGoroutine")=false)(e:fn.body.isSome=true) :
  ∃fn b,P.funcs[f]?=aa fn/\(fn.name == "runtime.NumGoroutine")=false/\fn.body=aa b:=by
 obtain⟨b,g⟩:=Lc.1 e;exact⟨fn,b,d,c,g⟩
def UX{w:World}{b p q v T c}(h:w.heap[b]?=aa (.cells #[p,v] T c)):w.setCell ⟨b,0,af⟩ q=w.setRow b #[q,v]:=by
 unfold World.setCell World.setRow
 congr 1
 apply Array.ext_getElem?;intro i;simp only[TC];by_cases e:b=i
 .subst e;simp[h]
 .simp[e]
def x6.refl b w:x6 b w w:=⟨rfl,rfl,rfl,bX _,λ_ _ _=>rfl,λ_ _ _=>rfl⟩
def x6.weaken{b w w'}(h:x6 af w w'):x6 b w w':=⟨h.os,h.tape,h.output,h.size,λk c _=>h.block k c aS,h.cell⟩
def x6.drew{b w w'}(h:x6 b w w'):x6 b w w'.drew:=⟨h.os,h.tape,h.output,h.size,h.block,h.cell⟩
def x6.alloc{d w w'}(h:x6 d w w') o:x6 d w (w'.alloc o) where
 os:=h.os
 tape:=h.tape
 output:=h.output
 size:=gi h.size aS
 block:=λk b hn=>(da w' o k<|zf b h.size).trans (h.block k b hn)
 cell:=λk c b=>(dH<|da w' o k<|zf b h.size).trans (h.cell k c b)
def x6.freeze{g w w'}(h:x6 (aa g) w w') n:x6 (aa g) w (w'.freeze ⟨g,0,af⟩ n):=by
 unfold World.freeze;split
 .exact h
 .refine⟨h.os,h.tape,h.output,gi h.size aS,λk d hn=>?_,λk c d=>?_⟩
  .have b:¬g=k:=λe=>hn (by rw[e]);rw[<-h.block k d hn];simp[TC,b]
  .rw[<-h.cell k c d];by_cases e:g=k
   .subst e;simp only[World.cell?,TC];cases w'.heap[g]? with
    | none=>rfl
    | some o=>cases o<;>rfl
   .have b:=e;simp[World.cell?,TC,b]
def R8{P G}{f:Nat}{fn}{spec:bg->Int->Int}(v:P.funcs[f]?=aa fn)(g:(fn.name == "runtime.NumGoroutine")=false)(z:fn.body.isSome=true)
  (A:∀s c,(-1<=spec s c/\spec s c<s.length))
  (h:∀s c w,Calls P f #[.string s,.int .u8 c] w λe w'=>e=.returned (.int .i64<|spec s.data.toList c)/\w'=w) :
  Holds P G f ⟨.pair .str<|.pair (.int .u8) .unit,.pair (.int .i64) .unit,λx=>aa (spec x.1 x.2.1,())⟩ where
 body:=by
  obtain⟨m,C⟩:=Lc.1 z;exact⟨fn,m,v,g,C⟩
 calls:=by
  intro I w n x y D L i j;obtain⟨s,c,u⟩:=x;obtain rfl:_=y:=aF j;obtain⟨M,t,r,p,E,k,q,l,d⟩:=i;obtain rfl:k=[]:=d;obtain⟨rfl,F⟩:=p;obtain⟨rfl,_⟩:=l;obtain rfl:n=#[.string ⟨s.toArray⟩,.int .u8 c]:=by
   apply BL.1;rw[r,q];rfl
  refine(h ⟨s.toArray⟩ c w).mono ?_;rintro e w' ⟨rfl,rfl⟩;refine⟨_,I,rfl,Below.refl _ _,λb o h=>h,D,λb o J K=>absurd J K,?_⟩;have hs:=A s c;have O:s.length<=maxLen:=F;refine⟨[.int .i64 _],⟨rfl,?_,?_⟩,rfl⟩
  .have:(i64).min=-9223372036854775808:=aD;show(i64).min<=spec s c
   omega
  .have:(i64).max=9223372036854775807:=aD;have:maxLen=140737488355328\/maxLen<=9223372036854775807:=by right;decide
   show spec s c<=(i64).max
   omega
def OW{P G}{f:Nat}{fn}{spec:bg->Int->Option bg}(D:P.funcs[f]?=aa fn)(g:(fn.name == "runtime.NumGoroutine")=false)(E:fn.body.isSome=true)
  (F:∀s c y,spec s c=aa y->y.length<=maxLen)
  (h:∀s c w y,(i64).min<=c/\c<=(i64).max->s.data.toList.length<=maxLen->spec s.data.toList c=aa y ->
   Calls P f #[.string s,.int .i64 c] w λe w'=>e=.returned (.string ⟨y.toArray⟩)/\Below w.heap.size w w') :
  Holds P G f ⟨.pair .str<|.pair (.int .i64) .unit,.pair .str .unit,λx=>(spec x.1 x.2.1).map λy=>(y,())⟩ where
 body:=by
  obtain⟨m,r⟩:=Lc.1 E;exact⟨fn,m,D,g,r⟩
 calls:=by
  intro I w n x y J Q i j;obtain⟨s,c,u⟩:=x;obtain⟨z,v,rfl⟩:=El.1 j;obtain⟨R,A,t,p,K,k,q,l,d⟩:=i;obtain rfl:k=[]:=d;obtain⟨rfl,L⟩:=p;obtain⟨rfl,r⟩:=l;obtain rfl:n=#[.string ⟨s.toArray⟩,.int .i64 c]:=by
   apply BL.1;rw[t,q];rfl
  refine(h ⟨s.toArray⟩ c w z r L v).mono ?_;rintro e w' ⟨rfl,C⟩;exact⟨_,I,rfl,C,λb o h=>h,λb o h=>zf (J b o h) C.size,λb o M O=>absurd M O,[.string ⟨z.toArray⟩],⟨rfl,F _ _ _ v⟩,rfl⟩
end Go.Ge
namespace Go.Ge
open RowKit Go.Proofs Go.Shelf
def Any.XL s c:((Lib.countByte s.data.toList c:Nat):Int)=((Lib.countB s ⟨#[c]⟩:Nat):Int):=by
 show((s.data.toList.count c):Int)=((Lib.count s.data.toList [c]):Int)
 rw[Lib.count_one]
set_option maxHeartbeats 1000000 in
def Any.EK{P ρ}(L:Lays.n146 P ρ)(k:(P.info?<|ρ.t 9).map (λi=>(i.zero,i.size,i.bytes))=aa (aa<|.string ByteArray.empty,1,16)) s b w
  (hs:s.size<4294967281) :
  Calls P (ρ.f 146) #[.string s,.string ⟨#[b]⟩] w λe w' =>
   e=.returned (.slice (aa ⟨w.heap.size,0,af⟩) (Lib.countB s ⟨#[b]⟩+1)<|Lib.countB s ⟨#[b]⟩+1)/\w'=w.alloc (.cells ((Lib.splitB ⟨#[b]⟩ 0 (Lib.countB s ⟨#[b]⟩) s).map Value.string).toArray<|ρ.t 9):=by
 have j:1<=(⟨#[b]⟩:ByteArray).size:=bX _;generalize d:(⟨#[b]⟩:ByteArray)=sep at j;have n:=Lib.countB_le sep j s.size s (bX _);have hlen:=Lib.splitB_all sep j 0 _ s rfl;have c:=Proofs.Any.strings_genSplit_core { L with } k s sep 0 (-1) (Lib.countB s sep+1) w hs j (pF _)
  (λx c o=>by
   subst d;refine(Proofs.Any.strings_Index_one { L with } x b _).mono λe w' ⟨l,g⟩=>⟨?_,g⟩;rw[l];show _=Ending.returned (Value.int .i64<|Lib.index x.data.toList [b])
   rw[Lib.index_one])
  (by
   subst d;refine(Proofs.Any.strings_Count_one { L with } s b w).mono λe w' ⟨l,g⟩=>⟨?_,g⟩;rw[l,Any.XL])
  aD aD ag
 have p:Lib.cellsOf (Lib.splitB sep 0 (Lib.countB s sep) s) (Lib.countB s sep+1)=((Lib.splitB sep 0 (Lib.countB s sep) s).map Value.string).toArray:=by rw[<-hlen];apply Lib.cellsOf_full
 have m:∀h w,(callFunc _ h).run P w=.ok _ w:=enters_of L.f221 (by kernel_rfl) rfl
 go_enter L.f146,Body.n146_ntmps ρ
 go_wp2_with (go_at_fn (ρ.f 221);refine c.mono ?_;rintro e w' ⟨rfl,g⟩;rw[g])
 go_ret
 exact⟨rfl,rfl⟩
def Db(s c:bg):Option (List bg):=match c with
 | [b]=>if s.length<4294967281 then aa (Lib.split s [b]) else af
 | _=>af
def aa3 sep:∀k s x,x∈Lib.splitK sep 0 k s->x.length<=s.length:=by
 intro k;induction k with
 | zero=>intro s x h;simp[Lib.splitK] at h;rw[h];apply bX
 | succ k b =>
   intro s x h;unfold Lib.splitK at h;split at h
   .simp at h;rw[h];apply bX
   .rcases fI.1 h with h|h
    .rw[h,dk];omega
    .have:=b _ _ h;rw[qU] at this;omega
def UY{P G}{f r:Nat}{fn}(U:P.funcs[f]?=aa fn)(g:(fn.name == "runtime.NumGoroutine")=false)(V:fn.body.isSome=true)
  (h:∀s b w,s.size<4294967281->Calls P f #[.string s,.string ⟨#[b]⟩] w λe w' =>
   e=.returned (.slice (aa ⟨w.heap.size,0,af⟩) (Lib.countB s ⟨#[b]⟩+1)<|Lib.countB s ⟨#[b]⟩+1)/\w'=w.alloc (.cells ((Lib.splitB ⟨#[b]⟩ 0 (Lib.countB s ⟨#[b]⟩) s).map Value.string).toArray r)) :
  Holds P G f ⟨.pair .str<|.pair .str .unit,.pair (.slice .str) .unit,λx=>(Db x.1 x.2.1).map λy=>(y,())⟩ where
 body:=by
  obtain⟨t,W⟩:=Lc.1 V;exact⟨fn,t,U,g,W⟩
 calls:=by
  intro I w A x y X hG k l;obtain⟨s,m,u⟩:=x;change bg at s;change bg at m;obtain⟨z,n,rfl⟩:=El.1 l;change Db s m=aa z at n;have C:∃b,m=[b]/\s.length<4294967281/\z=Lib.split s [b]:=by
   unfold Db at n;split at n
   .rename_i b;split at n
    .rename_i L;exact⟨b,rfl,L,(aF n).symm⟩
    .cases n
   .cases n
  obtain⟨b,rfl,L,rfl⟩:=C;obtain⟨cs,Q,M,D,Y,p,E,q,c⟩:=k;obtain rfl:p=[]:=c;obtain⟨rfl,O⟩:=D;obtain⟨rfl,_⟩:=q;obtain rfl:A=#[.string ⟨s.toArray⟩,.string ⟨#[b]⟩]:=by
   apply BL.1;rw[M,E];rfl
  refine(h ⟨s.toArray⟩ b w<|by show s.toArray.size<_;simpa using L).mono ?_;rintro e w' ⟨rfl,rfl⟩;have d:=Lib.splitB_data ⟨#[b]⟩ 0 (Lib.countB ⟨s.toArray⟩ ⟨#[b]⟩) ⟨s.toArray⟩;have hlen:=Lib.splitB_all ⟨#[b]⟩ (bX _) 0 _ ⟨s.toArray⟩ rfl;generalize Z:Lib.splitB ⟨#[b]⟩ 0 _ ⟨s.toArray⟩=R at d hlen;have hd:R.map _=Lib.split s [b]:=d;have hn:(Lib.split s [b]).length=Lib.countB ⟨s.toArray⟩ ⟨#[b]⟩+1:=by rw[<-hd,yJ,hlen]
  have F:Lib.countB ⟨s.toArray⟩ ⟨#[b]⟩+1<=maxLen:=by
   have:=Lib.countB_le ⟨#[b]⟩ (bX _) s.length ⟨s.toArray⟩ (by show s.toArray.size<=_;simp);have e:(⟨s.toArray⟩:ByteArray).size=s.length:=by show s.toArray.size=_;simp
   have:4294967281<=maxLen:=aD;omega
  refine⟨_,λb o=>I b o\/b=w.heap.size,rfl,(Below.refl _ _).alloc (bX _) _,λb o h=>.inl h,λb o h=>?_,λb o K h2=>?_,?_⟩
  .have WG:(w.alloc<|.cells (R.map Value.string).toArray r).heap.size=w.heap.size+1:=aS;rcases h with h|h
   .have:=X b o h;omega
   .omega
  .rcases K with K|K
   .exact absurd K h2
   .omega
  .refine⟨[.slice _ _ _],?_,rfl⟩;refine .inr ⟨w.heap.size,0,Lib.countB ⟨s.toArray⟩ ⟨#[b]⟩+1,?_,?_,F,λi x S=>?_⟩
   .show _=[Value.slice _ (Lib.split s [b]).length _]
    rw[hn]
   .show(Lib.split s [b]).length<=_
    omega
   .have J:(Lib.split s [b])[i]?=aa x:=S;rw[<-hd,Em] at J;obtain⟨y,hy,rfl⟩:=El.1 J;refine⟨[.string y],rfl,λj v T=>?_,?_⟩
    .cases j with
     | succ j=>cases T
     | zero =>
       obtain rfl:=aF T;simp[Ty.size,hy]
    .refine⟨?_,?_⟩
     .have:=(Lib.mk_data y).symm;rw[<-this]
     .have hm:=dW S;have:=aa3 _ _ _ _ hm;exact gi this O
def EL(l:List bg)(b:bg):Option bg:=if l.length<=140737488355328/\(Lib.join l b).length<=140737488355328 then aa (Lib.join l b) else af
def XM{P G}{f:Nat}{fn}(hP:P.funcs[f]?=aa fn)(t:(fn.name == "runtime.NumGoroutine")=false)(hb:fn.body.isSome=true)
  (Y:∀a c d w,Calls P f #[.slice a 0 c,.string d] w λe w'=>e=.returned (.string ⟨#[]⟩)/\w'=w)
  (h:∀V o c (L:List ByteArray) d w,
  (∀j x,L[j]?=aa x->w.cell? ⟨V,o+j,af⟩=aa (.string x))->(V<w.heap.size)->(L.length<=140737488355328)->(L.length<=c) ->
  ((Lib.join (L.map (·.data.toList)) d.data.toList).length<=140737488355328) ->
  Calls P f #[.slice (aa ⟨V,o,af⟩) L.length c,.string d] w λe w'=>e=.returned (.string ⟨(Lib.join (L.map (·.data.toList)) d.data.toList).toArray⟩)/\Below w.heap.size w w') :
  Holds P G f ⟨.pair (.slice .str)<|.pair .str .unit,.pair .str .unit,λx=>(EL x.1 x.2.1).map λy=>(y,())⟩ where
 body:=by
  obtain⟨M,W⟩:=Lc.1 hb;exact⟨fn,M,hP,t,W⟩
 calls:=by
  intro I w n x y Z hG A C;obtain⟨l,d,u⟩:=x;obtain⟨z,R,rfl⟩:=El.1 C;unfold EL at R;split at R
  case isFalse=>cases R
  rename_i g;obtain⟨D,g⟩:=g;obtain rfl:=aF R;obtain⟨cs,rest,O,Q,cs2,E,p,F,k⟩:=A;obtain rfl:E=[]:=k;obtain⟨rfl,hsm⟩:=F;have fin:∀{v},cs=[v]->∀{w'},Below w.heap.size w w'->∀{e:Ending},e=.returned (.string ⟨(Lib.join l d).toArray⟩) ->
    ∃v S,e=.returned v/\Below w.heap.size w w'/\(∀b o,I b o->S b o)/\(∀b o,S b o->b<w'.heap.size)/\(∀b o,S b o->¬I b o->w.heap.size<=b)/\lR w' S (.pair .str .unit) (Lib.join l d,()) v:=by
   intro v _ w' T e he;exact⟨_,I,he,T,λb o h=>h,λb o h=>zf (Z b o h) T.size,λb o h1 h2=>absurd h1 h2,[.string ⟨(Lib.join l d).toArray⟩],⟨rfl,(gi g aD)⟩,rfl⟩
  rcases Q with ⟨⟨q,rfl⟩,hl⟩|⟨J,K,m,rfl,s,agB,X⟩
  .obtain rfl:l=[]:=hl;obtain rfl:n=#[.slice q 0 0,.string ⟨d.toArray⟩]:=by
    apply BL.1;rw[O,p];rfl
   refine(Y q 0 ⟨d.toArray⟩ w).mono ?_;rintro e w' ⟨rfl,rfl⟩;exact fin rfl (Below.refl _ _) rfl
  .change l.length<=m at s;obtain rfl:n=#[.slice _ l.length m,.string ⟨d.toArray⟩]:=by
    apply BL.1;rw[O,p];rfl
   cases l with
   | nil =>
     refine(Y _ m ⟨d.toArray⟩ w).mono ?_;rintro e w' ⟨rfl,rfl⟩;exact fin rfl (Below.refl _ _) rfl
   | cons a r =>
     have i:∀j x,(a::r)[j]?=aa x->w.cell? ⟨J,K+j,af⟩=aa (.string ⟨x.toArray⟩)/\I J (K+j):=by
      intro j x U;obtain⟨es,he,W,hr⟩:=X j x U;obtain⟨rfl,_⟩:=hr;have:=W 0 _ rfl;simpa [Ty.size] using this
     have e1:((a::r).map λx=>(⟨x.toArray⟩:ByteArray)).map (·.data.toList)=a::r:=by
      rw[List.map_map];exact List.map_id'' (λx=>rfl) _
     have:=h J K m _ ⟨d.toArray⟩ w (λj x U=>by
      rw[Em] at U;obtain⟨y,hy,rfl⟩:=El.1 U;exact(i j y hy).1) (Z _ _ (i 0 a rfl).2) (by rw[yJ];exact D) (by rw[yJ];exact s) (by rw[e1];exact g)
     rw[e1,yJ] at this;refine this.mono ?_;rintro e w' ⟨rfl,T⟩;exact fin rfl T rfl
end Go.Ge
namespace Go.Ge
open RowKit
def EM{P G f fn}(C:P.funcs[f]?=aa fn)(q:(fn.name == "runtime.NumGoroutine")=false)(D:fn.body.isSome=true){T F:Nat}{t A U R:Ty}{W:((t.den×A.den)×U.den->Option (R.den×U.den))->(t.den×A.den)×U.den->Option (R.den×U.den)}
  (E:∀s,kR P G f ⟨T,t,F,A,U,R,s⟩->kR P G f ⟨T,t,F,A,U,R,W s⟩) (S:Nat->(t.den×A.den)×U.den->Option (R.den×U.den)) (J:∀x,S 0 x=af) (K:∀k x y,S (k+1) x=aa y->W (S k) x=aa y)
  {spec} (L:∀x y,spec x=aa y->∃k,S k x=aa y):kR P G f ⟨T,t,F,A,U,R,spec⟩:=by
 have l:∃fn o,P.funcs[f]?=aa fn/\(fn.name == "runtime.NumGoroutine")=false/\fn.body=aa o:=by
  obtain⟨o,M⟩:=Lc.1 D;exact⟨fn,o,C,q,M⟩
 have all:∀k,kR P G f ⟨T,t,F,A,U,R,S k⟩:=by
  intro k;induction k with
  | zero=>exact⟨l,λI w m n p z r x u y _ _ _ _ _ _ _ _ _ v=>by have:=J ((r,x),u);rw[show S 0 ((r,x),u)=aa y from v] at this;cases this⟩
  | succ k O=>exact⟨l,λI w m n p z r x u y a b c d e g h i j v=>(E _ O).calls I w m n p z r x u y a b c d e g h i j (K k _ _ v)⟩
 exact⟨l,λI w m n p z r x u y a b c d e g h i j v=>by
  obtain⟨k,Q⟩:=L _ _ v;exact(all k).calls I w m n p z r x u y a b c d e g h i j Q⟩
end Go.Ge
