import Derived.Test.YtgklgliokhbcnaaGreatDoorGeH
import Derived.Sort.EncStr
import Derived.Sort.Grow
import Derived.Lib.SlicesCompact
import Derived.Shelf.Spec.SlicesInsertGrow
import Derived.Deep.RegionLaw
import Derived.Shelf.RegionOpenPlain
set_option linter.unusedVariables false
set_option linter.unusedSimpArgs false
set_option linter.unusedSectionVars false
set_option linter.defProp false
open Option renaming some->aa,none->af
open Go.IntKind (i64)
namespace Go.Ge
open RowKit Go.Sort Go.Proofs
def lT.mk'{w w' I X}(a:w'.os=w.os)(e:w'.tape=w.tape)(f:w'.output=w.output)(c:w.heap.size<=w'.heap.size)
  (g:∀k,k<w.heap.size->¬X k->w'.heap[k]?=w.heap[k]?) (i:∀b o,I b o->b<w.heap.size):lT w I X w' I where
 below:=⟨a,e,f,c,λk d=>g k (Y5 λq=>d (.inl q)) λq=>d (.inr q)⟩
 held:=λ_ _ h=>h
 te:=λb o h=>zf (i b o h) c
 qV:=λb o h k=>absurd h k
def OX{a:Type}{L:List a}{i y}(h:L[i]?=aa y):(L.drop i).take 1=[y]:=by
 obtain⟨b,c⟩:=hR.1 h;rw[BK b];simp[c]
def UZ{w I}{t:Ty}[inst:Inhabited t.den]{enc:t.den->Value}(m:t.size=1)(n:∀x f,bH w I t x f->f=[enc x]){l:List t.den}{blk cur tid g}(h:w.heap[blk]?=aa (.cells cur tid g))(d:ni cur g)(o:l.length<=cur.size)
  (e:∀(i:Nat) x,l[i]?=aa x->bH w I t x ((cur.toList.drop<|i*t.size).take t.size)):Sort.Holds enc w blk 0 l.toArray:=by
 intro j p;have a:j<l.length:=by simpa using p
 have b:=n _ _ (e j l[j]<|fX a);rw[m,Fo] at b;have q:cur[j]?=aa (enc l[j]):=by
  have:((cur.toList.drop j).take 1)[0]?=aa (enc l[j]):=by
   rw[b];rfl
  simpa using this
 have c:l.toArray[j]! = l[j]:=by simp[a]
 refine⟨?_,?_⟩
 .rw[c];simp only[World.cell?,h,BD];exact q
 .have:=d j ag;simp only[World.frozen?,h];simp at this;simp;exact this
def Zt{w w' I}{t:Ty}[inst:Inhabited t.den]{enc:t.den->Value}(D:t.size=1)(G:∀b o,I b o->b<w.heap.size){l l':List t.den}{blk cap cur tid s}(E:w.heap[blk]?=aa (.cells cur tid s))(u:ThB t cur s)
  (a:cur.size=cap*t.size) (h:∀o,¬I blk o) {d:List t.den} (O:d.length=l.length) (H:l.length<=cap) (m:cap<=maxLen) (v:l'.length<=l.length) (p:∀(i:Nat) x,l'[i]?=aa x->d[i]?=aa x/\bH w' I t x [enc x]) {n os}
  (q:w'=grow (putRow enc (Sort.ahead w n) blk 0 d.toArray) os) :
  lT w I (λk=>∃c,aa (blk,cap)=aa (k,c)) w' I/\w9 w' I t l' (aa (blk,cap)) (.slice (aa ⟨blk,0,af⟩) l'.length cap):=by
 have y:w'.heap.size=w.heap.size+os.size:=by rw[q];simp
 have f:∀k,k<w.heap.size->w'.heap[k]?=if k=blk then aa (.cells (putCells enc 0 d.toArray cur) tid s) else w.heap[k]?:=by
  intro k A;subst q;simp only[grow,putRow,mapBlock];rw[ah0<|by simpa using A,TC];by_cases e:blk=k
  .subst e;simp[E,onCells]
  .simp[e,IM e]
 have g:=f blk ((wL.1 E).1);rw[aN rfl] at g;have J:lT w I (λk=>∃c,aa (blk,cap)=aa _) w' I:=lT.mk' (by rw[q];rfl) (by rw[q];rfl) (by rw[q];rfl) ag (λk A hn=>by
  rw[f k A,aJ λe=>hn ⟨cap,by rw[e]⟩]) G
 refine⟨J,.inr ⟨blk,cap,putCells enc 0 d.toArray cur,tid,s,rfl,rfl,g,u.same (by simp[putCells]),gi v H,m,by simp[putCells,a],h,λi x F=>?_⟩⟩;obtain⟨r,K⟩:=p i x F;have L:i<l'.length:=(hR.1 F).1;have j:i<d.length:=ag;have B:i<cur.size:=by rw[a,D];omega
 have M:(putCells enc 0 d.toArray cur)[i]?=aa (enc x):=by
  have C:d[i]=x:=by rw[fX j] at r;exact aF r
  have N:d.toArray[i]! = d[i]:=by simp[j]
  rw[show _[i]?=aa (enc d.toArray[i]!) from by simp[putCells,B,j],N,C]
 rw[D,Fo,OX (by simpa using M)];exact K
def uZ(l:List bg):List bg:=l.mergeSort λx y=>decide (x<=y)
def aa4:uZ []=[]:=by simp[uZ]
def Qd l:(uZ l).length=l.length:=by simp[uZ]
def ael{P}{f:Nat}{fn}(U:P.funcs[f]?=aa fn)(V:(fn.name == "runtime.NumGoroutine")=false)(B:fn.body.isSome=true)
  (W:∀blk off cap (A:List bg) w,Sort.Holds encStr w blk off A.toArray->blk<w.heap.size->A.length<4611686018427387904 ->
   Calls P f #[.slice (aa ⟨blk,off,af⟩) A.length cap] w λe w'=>e=.returned (.tuple #[])/\∃n J,w'=grow (putRow encStr (Sort.ahead w n) blk off (A.mergeSort λx y=>decide (x<=y)).toArray) J)
  (X:∀p cap w,Calls P f #[.slice p 0 cap] w λe w'=>e=.returned (.tuple #[])/\w'=w) :
  pA P f (.own .str .unit false λl _=>bif fits (len (α:=bg) l) then aa (uZ l) else af):=by
 obtain⟨o,B⟩:=Lc.1 B;refine⟨⟨fn,o,U,V,B⟩,λI w q v r l K L x M g s m a=>?_⟩;change List bg at l;obtain rfl:r=[]:=m;have c:q=#[v]:=by apply BL.1;rw[g]
 subst c;have b:fits (len l)=true/\K=uZ l:=by
  change (bif fits _ then aa _ else af)=aa K at a;cases N:fits _ with
  | true=>rw[N] at a;exact⟨rfl,(aF a).symm⟩
  | false=>rw[N] at a;cases a
 obtain⟨b,rfl⟩:=b;have hlen:=FN b;rcases s with ⟨rfl,rfl,rfl⟩|⟨blk,cap,C,tid,fr,rfl,rfl,D,O,Q,Y,R,Z,S⟩
 .refine(X af 0 w).mono λe w' u=>?_;obtain⟨rfl,rfl⟩:=u;exact⟨I,lT.mk' rfl rfl rfl (bX _) (λ_ _ _=>rfl) M,rfl,Qd [],.inl ⟨rfl,aa4,rfl⟩⟩
 .have E:List.length l<=cap:=Q;have F:C.size=cap*1:=R;refine(W blk 0 cap l w (UZ (t:=.str) (inst:=instInhabitedList) (enc:=encStr) rfl (λ_ _ h=>h.1) D O.th (by rw[F,Fo];exact E) S) (wL.1 D).1 ag).mono λe w' u=>?_;obtain⟨rfl,n,J,u⟩:=u;have d:(uZ l).length=l.length:=by simp[uZ]
  obtain⟨k1,G⟩:=Zt (t:=.str) (inst:=instInhabitedList) (enc:=encStr) rfl M D O R Z (l':=uZ l) d Q Y (DT d) (λi x T=>⟨T,by
   have H:x∈l:=List.mem_mergeSort.1 (dW T);obtain⟨j,hj⟩:=PG.1 H;exact⟨rfl,(S j x hj).2⟩⟩) u
  change w9 w' I Ty.str (uZ l) (aa (blk,cap)) (.slice (aa ⟨blk,0,af⟩) (List.length (α:=bg)<|uZ l) cap) at G;rw[d] at G;exact⟨I,k1,rfl,d,G⟩
def XN{α}[DecidableEq α][Inhabited α](a:List α):(Lib.compact a).length<=a.length/\∀x∈Lib.compact a,x∈a:=by
 constructor
 .unfold Lib.compact Lib.compactUpTo;rw[yJ];exact gi (TD _ _) aS
 .intro x b;unfold Lib.compact Lib.compactUpTo at b;rw[Lm] at b;obtain⟨j,d,rfl⟩:=b;have c:j<a.length:=Lk.1 (zg.1 d).1;simp[c]
def Gd{P}{t:Ty}[inst:Inhabited t.den][deq:DecidableEq t.den]{enc:t.den->Value}{z:t.den}{Q:t.den->Prop}(u:t.size=1)(J:∀w I x K,bH w I t x K↔K=[enc x]/\Q x){f:Nat}{fn}(X:P.funcs[f]?=aa fn)(Y:(fn.name == "runtime.NumGoroutine")=false)(M:fn.body.isSome=true)
  (Z:∀m p g o w,Sort.Holds enc w m p o.toArray->o.length<=9223372036854775807->o.length<=g ->
   Calls P f #[.slice (aa ⟨m,p,af⟩) o.length g] w λe w'=>e=.returned (.slice (aa ⟨m,p,af⟩) (Lib.compact o).length g)/\∃q,w'=putRow enc (Sort.ahead w q) m p (Lib.compact o++List.replicate (o.length-(Lib.compact o).length) z).toArray)
  (hn:∀a g w,Calls P f #[.slice a 0 g] w λe w'=>e=.returned (.slice a 0 g)/\w'=w) :
  pA P f (.own t .unit true λl _=>aa (Lib.compact l)):=by
 have r:∀o:List t.den,(Lib.compact o).length<=o.length/\∀x∈Lib.compact o,x∈o:=XN;obtain⟨C,M⟩:=Lc.1 M;refine⟨⟨fn,C,X,Y,M⟩,λI w D v E l l' L x R y F A B=>?_⟩;obtain rfl:E=[]:=A;have s:D=#[v]:=by apply BL.1;rw[y]
 subst s;obtain rfl:Lib.compact l=l':=aF B;rcases F with ⟨rfl,rfl,rfl⟩|⟨m,g,cur,tid,fr,rfl,rfl,S,T,H,U,V,q8,W⟩
 .refine(hn af 0 w).mono λe w' G=>?_;obtain⟨rfl,rfl⟩:=G;exact⟨I,lT.mk' rfl rfl rfl (bX _) (λ_ _ _=>rfl) R,_,af,rfl,.inl ⟨rfl,(yG.1<|Nat.le_zero.1 (r []).1),rfl⟩,λ_ _ h=>by cases h⟩
 .refine(Z m 0 g l w (UZ u (λx K h=>((J _ _ _ _).1 h).1) S T.th (by rw[V,u,Fo];exact H) W) (gi H U) H).mono λe w' G=>?_;obtain⟨rfl,n,G⟩:=G;obtain⟨k1,k2⟩:=Zt (enc:=enc) u R S T V q8 (l':=Lib.compact l) (d:=Lib.compact l++List.replicate (l.length-(Lib.compact l).length) z) (by have:=(r l).1;simp;omega) H U (r l).1 (λi x N=>⟨by
    rw[Tz (hR.1 N).1];exact N,by
   have O:x∈l:=(r l).2 x (dW N);obtain⟨j,hj⟩:=PG.1 O;exact(J _ _ _ _).2 ⟨rfl,((J _ _ _ _).1<|W j x hj).2⟩⟩) (n:=n) (os:=#[]) (w':=w') (by rw[G];simp)
  exact⟨I,k1,_,_,rfl,k2,λb c h=>.inl ⟨c,h⟩⟩
def U0{P}{f:Nat}{fn}(h:P.funcs[f]?=aa fn)(i:(fn.name == "runtime.NumGoroutine")=false)(j:fn.body.isSome=true)
  (m:∀c d b g w,Sort.Holds encStr w c d g.toArray->g.length<=9223372036854775807->g.length<=b ->
   Calls P f #[.slice (aa ⟨c,d,af⟩) g.length b] w λe w'=>e=.returned (.slice (aa ⟨c,d,af⟩) (Lib.compact g).length b)/\∃q,w'=putRow encStr (Sort.ahead w q) c d (Lib.compact g++List.replicate (g.length-(Lib.compact g).length) []).toArray)
  (n:∀a b w,Calls P f #[.slice a 0 b] w λe w'=>e=.returned (.slice a 0 b)/\w'=w) :
  pA P f (.own .str .unit true λl _=>aa (Lib.compact (α:=bg) l)) :=
 Gd (t:=.str) (inst:=instInhabitedList) (deq:=instDecidableEqList) (enc:=encStr) (z:=[]) (Q:=λx=>List.length (α:=UInt8) x<=maxLen) rfl (λw I x o=>Iff.rfl) h i j m n
def R9{P}{f:Nat}{fn}(h:P.funcs[f]?=aa fn)(i:(fn.name == "runtime.NumGoroutine")=false)(j:fn.body.isSome=true)
  (m:∀c d b g w,Sort.Holds (Value.int .i64) w c d g.toArray->g.length<=9223372036854775807->g.length<=b ->
   Calls P f #[.slice (aa ⟨c,d,af⟩) g.length b] w λe w'=>e=.returned (.slice (aa ⟨c,d,af⟩) (Lib.compact g).length b)/\∃q,w'=putRow (Value.int .i64) (Sort.ahead w q) c d (Lib.compact g++List.replicate (g.length-(Lib.compact g).length) 0).toArray)
  (n:∀a b w,Calls P f #[.slice a 0 b] w λe w'=>e=.returned (.slice a 0 b)/\w'=w) :
  pA P f (.own (.int .i64) .unit true λl _=>aa (Lib.compact (α:=Int) l)) :=
 Gd (t:=.int .i64) (inst:=(inferInstance:Inhabited Int)) (deq:=Int.instDecidableEq) (enc:=Value.int .i64) (z:=(0:Int)) (Q:=λx:Int=>IntKind.i64.min<=x/\x<=IntKind.i64.max) rfl (λw I x o=>Iff.rfl) h i j m n
end Go.Ge
namespace Go.Ge
variable [Lp]
open RowKit Go.Shelf Go.Lib Go.Proofs
def Av{P} w n q ty elem b o c e a d sCap k cs {cur p g}
  (r:P.underlying n=aa (.slice elem)) (hs:(P.info? elem).map (·.size)=aa k) (hn:cs.length=Nat.min d c*k)
  (f:∀j v,cs[j]?=aa v->w.cell? (a.add j)=aa v) (s:w.heap[b]?=aa (.cells cur p g)) (h:ni cur g) (l:o+cs.length<=cur.size) (t:∀v∈cs,v.oneCell'=true) :
  (Builtin.copy_ #[n,q] ty #[.slice (aa ⟨b,o,af⟩) c e,.slice (aa a) d sCap]).run P w=.ok (goInt<|Nat.min d c) (w.setRow b (ba cur.toList o cs).toArray):=by
 cases m:P.info? elem with
 | none=>simp[m] at hs
 | some i =>
   simp[Builtin.copy_,run_underlying r,Builtin.lenOf,Builtin.firstCells,sizeOf,typeInfo,m,(by simpa [m] using hs),<-hn,(run_loadCells_list w a cs f),(dx b o p g cs 0 cur w s h (by simpa using l) t)]
structure U1 (P:Program) (ρ:Ren) (nm:String) (k:Nat):Prop where
 mixed:P.follows .mixedOrders=true
 f22:P.funcs[ρ.f 22]?=aa { Body2.n22 ρ with name:=nm }
 ov:∀(xs:Array Value) (w:World),(callFunc (ρ.f 29) xs).run P w=((Extern.SlicesOverlaps.overlaps #[(ρ.t 24),(ρ.t 24)] #[(ρ.t 4)] xs).run P w).andThen λv w'=>.ok (.value v) w'
 t3:P.underlying (ρ.t 3)=aa (TypeDesc.int i64)
 t4:P.underlying (ρ.t 4)=aa TypeDesc.bool
 t24:P.underlying (ρ.t 24)=aa (TypeDesc.slice<|ρ.t 9)
 z9:∀w,(Go.sizeOf<|ρ.t 9).run P w=.ok k w
 i9:(P.info?<|ρ.t 9).map (·.size)=aa k
variable {P:Program} {ρ:Ren} {nm:String} {k:Nat}
set_option maxHeartbeats 4000000 in
set_option maxRecDepth 100000 in
def aa5(L:U1 P ρ nm k)(b n c i l d m E:Nat)(_cs x:List Value)(w:World){a:Array Value}{Q:TypeId}{F:Nat×Nat}(hi:i<n)(hm:0<m)(R:n+m<=c)(Z:c<=9223372036854775807)(S:l≠b)
  (hg:w.heap[b]?=aa (.cells a Q F)) (G:ni a F) (y:a.size=c*k) (T:∀v∈(a.toList.take<|n*k),v.oneCell'=true)
  (H:x.length=m*k) (U:∀j v,x[j]?=aa v->w.cell? ⟨l,d+j,af⟩=aa v) (V:∀v∈x,v.oneCell'=true)
  (I:∀J K,(Extern.SlicesOverlaps.overlaps #[(ρ.t 24),(ρ.t 24)] #[(ρ.t 4)] #[.slice (aa ⟨l,d,af⟩) m E,.slice (aa ⟨b,(i+m)*k,af⟩) J K]).run P w=.ok (.bool false) w) :
  Calls P (ρ.f 22) #[.slice (aa ⟨b,0,af⟩) n c,.int .i64 i,.slice (aa ⟨l,d,af⟩) m E] w λe w' =>
   e=.returned (.slice (aa ⟨b,0,af⟩) (n+m) c) /\
   w'=(w.drew.setRow b (ba a.toList ((i+m)*k)<|(a.toList.take<|n*k).drop<|i*k).toArray).setRow b (ba (ba a.toList ((i+m)*k)<|(a.toList.take<|n*k).drop<|i*k) (i*k) x).toArray:=by
 have t3:=L.t3;have t4:=L.t4;have t24:=L.t24;have z9:=L.z9;have u3:=run_underlying L.t3;have u4:=run_underlying L.t4;have u24:=run_underlying L.t24;have mixed:=L.mixed;have hz1:¬((m:Int)=0):=ag;have hz2:¬((i:Int)=(n:Int)):=ag;have apa:∀J K,(callFunc (ρ.f 29) #[.slice (aa ⟨l,d,af⟩) m E,.slice (aa ⟨b,(i+m)*k,af⟩) J K]).run P w=.ok (.value<|.bool false) w:=λJ K=>by
  rw[L.ov,I J K];rfl
 have hw1:IntKind.i64.wrap ((i:Int)+(m:Int))=(i:Int)+(m:Int):=by rw[IntKind.wrap_i64];omega
 have hb1:(0:Int)<=(i:Int)+(m:Int):=ag;have Uj:i<=n:=ag;have htn:((i:Int)+(m:Int)).toNat=i+m:=ag;have hb2:¬(c=i+m):=ag;have hb3:(i:Int)<=(n:Int)+(m:Int):=ag;have hb4:¬(c=i):=ag;have g:a.toList.length=c*k:=by simpa using y
 have W:n*k<=c*k:=gN _ ag;have X:i*k<=n*k:=gN _ ag;have h:(i+m)*k+(n-i)*k<=c*k:=by
  rw[<-iF];exact gN _ ag
 have o:((a.toList.take<|n*k).drop<|i*k).length=(n-i)*k:=by
  rw[qU,dk,wO ag,TS]
 have p:(ba a.toList ((i+m)*k)<|(a.toList.take<|n*k).drop<|i*k).length=c*k:=by rw[bP<|by rw[o,g];exact h];exact g
 have q:w.drew.heap[b]?=aa (.cells a Q F):=hg;have s:∀A B Y,(Builtin.copy_ #[(ρ.t 24),(ρ.t 24)] A #[.slice (aa ⟨b,(i+m)*k,af⟩) (n+m-(i+m)) B,.slice _ (n+m-i) Y]).run P w.drew =
   .ok (goInt<|Nat.min _<|n+m-_) (w.drew.setRow b (ba a.toList _<|(a.toList.take<|n*k).drop<|i*k).toArray):=λA B Y =>
  Av w.drew _ _ A _ b _ (n+m-_) B ⟨b,i*k,af⟩ _ Y k ((a.toList.take _).drop _) L.t24 L.i9 (by
    rw[o];congr 1;show n-i=min _ (n+m-_);omega)
   (λj v u=>by
    rw[Addr.add_lit,cell_of_heap q];rw[tu,jq] at u;split at u
    .simpa using u
    .cases u) q G (by rw[o,y];exact h) (λv hv=>T v (PH hv))
 obtain⟨D,M⟩:∃D,D=ba a.toList ((i+m)*k) ((a.toList.take<|n*k).drop<|i*k):=⟨_,rfl⟩;rw[<-M] at s p⊢;obtain⟨C,r⟩:∃C,C=w.drew.setRow b D.toArray:=⟨_,rfl⟩;have N:C.heap[b]?=aa (.cells D.toArray Q F):=by rw[r];exact setRow_heap w.drew b a _ Q F q
 have O:∀j v,x[j]?=aa v->C.cell? ⟨l,d+j,af⟩=aa v:=λj v u=>by
  rw[r];have h0:(w.drew.setRow b D.toArray).heap[l]?=w.drew.heap[l]?:=setRow_other w.drew b l _ (S);rw[dH h0];exact U j v u
 have apf:∀A B,(Builtin.copy_ #[(ρ.t 24),_] A #[.slice _ _ B,.slice _ m E]).run P C=.ok (goInt<|Nat.min m _) (C.setRow b (ba D _ x).toArray):=λA B=>by
  have:=Av C _ (ρ.t 24) A _ b (i*k) (n+m-i) B ⟨l,d,af⟩ m E k x L.t24 L.i9 (by rw[H];congr 1;show m=min m _;omega)
   (λj v u=>by rw[Addr.add_lit];exact O j v u) N (G.same<|by rw[Lg,p,y]) (by rw[H,Lg,p,<-iF];exact gN _ ag) V
  simpa using this
 rw[<-r] at s⊢;clear M r N O q p o h X W g I
 go_enter L.f22,Body2.n22_ntmps ρ
 go_wp2_with (simp only)
 go_region_law_o (refine step_copy_runI rfl _ _ _ _ rfl _ _ (by simp[Act.eval]) (by simp[Act.eval]) _ ?_)
 go_wp2_with (at_builtin;refine wpList_copy_runI _ rfl _ _ _ _ rfl _ _ rfl rfl _ ?_)
 go_ret
 exact⟨rfl,rfl⟩
set_option maxHeartbeats 4000000 in
set_option maxRecDepth 100000 in
def Ji(L:U1 P ρ nm k) base a n c i b w (hi:i<=n) (_hnc:n<=c) :
  Calls P (ρ.f 22) #[.slice base n c,.int .i64 i,.slice a 0 b] w λe w'=>e=.returned (.slice base n c)/\w'=w:=by
 have t24:=L.t24;have z9:=L.z9
 go_enter L.f22,Body2.n22_ntmps ρ
 go_wp2
 all_goals (go_ret;exact⟨rfl,rfl⟩)
set_option maxHeartbeats 4000000 in
set_option maxRecDepth 100000 in
def Sa(L:U1 P ρ nm k) base n c m d a w w1 g (h:0<m) (_hnc:n<=c)
  (b:(Builtin.append_ #[(ρ.t 24),(ρ.t 24)] (ρ.t 24) #[.slice base n c,.slice a m d]).run P w=.ok g w1) :
  Calls P (ρ.f 22) #[.slice base n c,.int .i64 n,.slice a m d] w λe w'=>e=.returned g/\w'=w1:=by
 have t24:=L.t24;have z9:=L.z9
 go_enter L.f22,Body2.n22_ntmps ρ
 go_wp2_with (at_builtin;refine Lib.wpList_append_run _ rfl _ _ _ _ rfl _ _ rfl rfl _ _ b ?_)
 all_goals (go_ret;exact⟨rfl,rfl⟩)
set_option maxHeartbeats 4000000 in
set_option maxRecDepth 100000 in
def aem(L:U1 P ρ nm k)(b n c i K l m vc:Nat)(_cs r:List Value)(w:World){d:Array Value}{tt:TypeId}{fr:Nat×Nat}{E:TypeInfo}{C:Value}(hie:P.info? (ρ.t 9)=aa E)(W:E.size=k)(hze:E.zero=aa C)(hzc:C.cells.size=k)(hk0:0<k)(hby:E.bytes<=32768)
  (hi:i<n) (hm:0<m) (_hnc:n<=c) (M:c<n+m) (X:n+m<=4294967296)
  (hg:w.heap[b]?=aa (.cells d tt fr)) (WG:d.size=c*k) (h1c:∀v∈(d.toList.take<|n*k),v.oneCell'=true)
  (O:r.length=m*k) (hvs:∀j v,r[j]?=aa v->w.cell? ⟨K,l+j,af⟩=aa v) (hvb:K<w.heap.size) (h1v:∀v∈r,v.oneCell'=true) :
  Calls P (ρ.f 22) #[.slice (aa ⟨b,0,af⟩) n c,.int .i64 i,.slice (aa ⟨K,l,af⟩) m vc] w λe w' =>
   ∃(G:Nat) (Z:List Value),n+m<=G/\G<=maxLen/\(d.toList.take (i*k)++Z).length=G*k/\e=.returned (.slice (aa ⟨w.heap.size,0,af⟩) (n+m) G) /\
   w'=(((w.drew.alloc<|.cells (d.toList.take (i*k)++Z).toArray<|ρ.t 9).setRow w.heap.size (ba (d.toList.take (i*k)++Z) (i*k) r).toArray).drew).setRow w.heap.size (ba (ba (d.toList.take (i*k)++Z) (i*k) r) ((i+m)*k)<|(d.toList.take<|n*k).drop<|i*k).toArray:=by
 have t3:=L.t3;have t4:=L.t4;have t24:=L.t24;have z9:=L.z9;have u3:=run_underlying L.t3;have u4:=run_underlying L.t4;have u24:=run_underlying L.t24;have mixed:=L.mixed;have hz1:¬((m:Int)=0):=ag;have hz2:¬((i:Int)=(n:Int)):=ag;have hz3:(c:Int)<(n:Int)+(m:Int):=ag;have Y:d.toList.length=c*k:=by simpa using WG
 have hnk:n*k<=c*k:=gN _ ag;have hik:i*k<=n*k:=gN _ ag;have hkk:(n:Int)+(m:Int)-(i:Int)=((n+m-i:Nat):Int):=ag;have Q:i+(n+m-i)=n+m:=ag;have hbw:b<w.heap.size:=(wL.1 hg).1;have hold:(Builtin.firstCells E.size i<|.slice (aa ⟨b,0,af⟩) i c).run P w.drew=.ok (d.toList.take<|i*k).toArray w.drew:=by
  rw[W];exact run_firstCells_some w.drew k i ⟨b,0,af⟩ i c (d.toList.take<|i*k) (by rw[dk,wO ag]) (λj v u=>by
   rw[Addr.add_lit];show w.cell? ⟨b,0+j,af⟩=aa v
   rw[cell_of_heap hg];rw[jq] at u;split at u
   .simpa using u
   .cases u)
 have hbn:(n+m)*E.bytes<=140737488355328:=gi (adf X hby) aD;have s:∀x,(Builtin.append_ #[(ρ.t 24),(ρ.t 3)] x #[.slice (aa ⟨b,0,af⟩) i c,.int .i64 ((n:Int)+(m:Int)-(i:Int))]).run P w =
   .ok (.slice (aa ⟨w.heap.size,0,af⟩) (n+m)<|grownCap w (n+m) c<|ρ.t 9) (w.drew.alloc<|.cells ((d.toList.take<|i*k).toArray++Builtin.zeroCells C.cells (n+m-i)++Builtin.zeroCells C.cells (grownCap w (n+m) c (ρ.t 9)-(n+m)))<|ρ.t 9):=λx=>by
  have h:=Lib.run_append_grow_zeros (P:=P) w (ρ.t 24) (ρ.t 3) x (ρ.t 9) E C .i64 .i64 L.t24 L.t3 hie hze (aa ⟨b,0,af⟩) i c (d.toList.take<|i*k) hold (n+m-i) ag ag ag ag (by
   have:(n+m-i)*E.bytes<=(n+m)*E.bytes:=gN _ ag;omega) (by rw[Q];exact growslice_fits M hbn)
  rw[Q] at h;rw[hkk];exact h
 have F:=grownCap_ge w (n+m) c (ρ.t 9);have H:=grownCap_le_maxLen w (n+m) c (ρ.t 9) (by have:=Ez;omega);obtain⟨G,hG⟩:∃G,G=grownCap w (n+m) c (ρ.t 9):=⟨_,rfl⟩;rw[<-hG] at s F H;obtain⟨Z,hZ⟩:∃Z:List Value,Z=(Builtin.zeroCells C.cells<|n+m-i).toList++(Builtin.zeroCells C.cells<|G-(n+m)).toList:=⟨_,rfl⟩;have J:(d.toList.take<|i*k).toArray++Builtin.zeroCells C.cells (n+m-i)++Builtin.zeroCells C.cells (G-(n+m))=(d.toList.take (i*k)++Z).toArray:=by
  rw[hZ];apply BL.1;simp
 rw[J] at s;have R:∀q,(Builtin.zeroCells C.cells q).size=q*k:=λq=>by simp[Builtin.zeroCells,hzc]
 have hZl:Z.length=(n+m-i)*k+(G-(n+m))*k:=by
  rw[hZ,jt,TF,TF,R,R]
 obtain⟨g,o⟩:∃g,g=d.toList.take (i*k)++Z:=⟨_,rfl⟩;have y:g.length=G*k:=by
  rw[o,jt,dk,wO ag,hZl,<-En,<-iF,<-iF]
  congr 1;omega
 rw[<-o] at s;have hGk:(n+m)*k<=G*k:=gN _ F;have ai0:i*k+m*k<=(n+m)*k:=by rw[<-iF];exact gN _ ag
 have S:(i+m)*k+(n-i)*k<=(n+m)*k:=by rw[<-iF];exact gN _ ag
 have T:((d.toList.take<|n*k).drop<|i*k).length=(n-i)*k:=by
  rw[qU,dk,wO ag,TS]
 have hs2:(ba g (i*k) r).length=G*k:=by rw[bP<|by rw[O,y];omega];exact y
 obtain⟨N,hN⟩:∃N,N=w.heap.size:=⟨_,rfl⟩;rw[<-hN] at s;obtain⟨D,A⟩:∃D,D=w.drew.alloc (.cells g.toArray<|ρ.t 9):=⟨_,rfl⟩;have U:D.heap[N]?=aa (.cells g.toArray (ρ.t 9) (0,0)):=by rw[A,hN];exact heap_alloc_new w.drew _
 have p:∀q,q<w.heap.size->D.heap[q]?=w.heap[q]?:=λq hq=>by rw[A];exact da w.drew _ q hq
 have amx:∀x V,(Builtin.copy_ #[(ρ.t 24),(ρ.t 24)] x #[.slice (aa ⟨N,i*k,af⟩) (n+m-i) V,.slice (aa ⟨K,l,af⟩) m vc]).run P D=.ok (goInt<|Nat.min m<|n+m-i) (D.setRow N (ba g (i*k) r).toArray):=λx V=>by
  have:=Av (P:=P) D (ρ.t 24) (ρ.t 24) x (ρ.t 9) N (i*k) (n+m-i) V ⟨K,l,af⟩ m vc k r L.t24 L.i9 (by rw[O];congr 1;show m=min m (n+m-i);omega)
   (λj v u=>by rw[Addr.add_lit,dH (a:=⟨K,l+j,af⟩) (p K hvb)];exact hvs j v u) U (uU _) (by rw[O,Lg,y];omega) h1v
  simpa using this
 obtain⟨I,B⟩:∃I,I=D.setRow N (ba g (i*k) r).toArray:=⟨_,rfl⟩;have hg2:I.drew.heap[N]?=aa (.cells (ba g (i*k) r).toArray (ρ.t 9) (0,0)):=by rw[B];exact setRow_heap D N g.toArray _ _ _ U
 have hgb:I.drew.heap[b]?=aa (.cells d tt fr):=by
  show I.heap[b]?=_
  rw[B,setRow_other D N b _ ag,p b hbw];exact hg
 have apq:∀x V sc,(Builtin.copy_ #[(ρ.t 24),(ρ.t 24)] x #[.slice (aa ⟨N,(i+m)*k,af⟩) (n+m-(i+m)) V,.slice (aa ⟨b,i*k,af⟩) (n-i) sc]).run P I.drew =
   .ok (goInt<|Nat.min (n-i)<|n+m-(i+m)) (I.drew.setRow N (ba (ba g (i*k) r) ((i+m)*k)<|(d.toList.take<|n*k).drop<|i*k).toArray):=λx V sc=>by
  have:=Av (P:=P) I.drew (ρ.t 24) (ρ.t 24) x (ρ.t 9) N ((i+m)*k) (n+m-(i+m)) V ⟨b,i*k,af⟩ (n-i) sc k ((d.toList.take<|n*k).drop<|i*k) L.t24 L.i9 (by
    rw[T];congr 1;show n-i=min (n-i) (n+m-(i+m));omega)
   (λj v u=>by
    rw[Addr.add_lit,cell_of_heap hgb];rw[tu,jq] at u;split at u
    .simpa using u
    .cases u) hg2 (uU _) (by rw[T,Lg,hs2];omega) (λv hv=>h1c v (PH hv))
  simpa using this
 have apr:G<=9223372036854775807:=by have:=H;unfold maxLen at this;omega
 have hGi:¬(G=i):=ag;have aps:¬(G=i+m):=ag;have hci:¬(c=i):=ag;have hw1:IntKind.i64.wrap ((i:Int)+(m:Int))=(i:Int)+(m:Int):=by rw[IntKind.wrap_i64];omega
 have hb1:(0:Int)<=(i:Int)+(m:Int):=ag;have Uj:i<=n:=ag;have htn:((i:Int)+(m:Int)).toNat=i+m:=ag;have hb3:(i:Int)<=(n:Int):=ag;have fin:∀(e:Ending) (w':World),(e=.returned (.slice (aa ⟨N,0,af⟩) (n+m) G)/\w'=I.drew.setRow N (ba (ba g (i*k) r) ((i+m)*k)<|(d.toList.take<|n*k).drop<|i*k).toArray) ->
   ∃(G:Nat) (Z:List Value),n+m<=G/\G<=maxLen/\(d.toList.take (i*k)++Z).length=G*k/\e=.returned (.slice (aa ⟨w.heap.size,0,af⟩) (n+m) G) /\
   w'=(((w.drew.alloc<|.cells (d.toList.take (i*k)++Z).toArray<|ρ.t 9).setRow w.heap.size (ba (d.toList.take (i*k)++Z) (i*k) r).toArray).drew).setRow w.heap.size (ba (ba (d.toList.take (i*k)++Z) (i*k) r) ((i+m)*k)<|(d.toList.take<|n*k).drop<|i*k).toArray:=by
  rintro e w' ⟨rfl,rfl⟩;refine⟨G,Z,F,H,by rw[<-o];exact y,by rw[hN],?_⟩;rw[<-o,<-hN,B,A]
 refine Calls.mono ?_ fin;rw[<-A] at s;rw[<-B] at amx;clear U p hg2 hgb A B hs2 T ai0 S hGk y o hZl R J hZ hG F H hbn hold hkk Q hik hnk Y fin hN hbw
 go_enter L.f22,Body2.n22_ntmps ρ
 go_wp2_with (first
  | (at_builtin;refine Lib.wpList_append_run _ rfl _ _ _ _ rfl _ _ rfl rfl _ _ (s _) ?_)
  | (at_builtin;refine wpList_copy_runI _ rfl _ _ _ _ rfl _ _ rfl rfl _ ?_))
 go_region_law_o (refine step_copy_runI rfl _ _ _ _ rfl _ _ (by simp[Act.eval]) (by simp[Act.eval]) _ ?_)
 go_wp2
 go_ret
 exact⟨rfl,rfl⟩
end Go.Ge
namespace Go.Ge
variable [Lp]
open RowKit Go.Shelf Go.Lib Go.Proofs
def cS{a b:List Value}{o:Nat}(h:o+b.length<=a.length)(j:Nat):(ba a o b)[j]?=if j<o then a[j]? else if j<o+b.length then b[j-o]? else a[j]?:=by
 unfold ba;rw[vL,Rb];have e:(a.take o).length=o:=by rw[dk];omega
 rw[e];by_cases c:j<o
 .rw[aN c,aN c,jq,aN c]
 .rw[aJ c,aJ c,Rb];by_cases d:j<o+b.length
  .rw[aN ag,aN d]
  .rw[aJ ag,aJ d,tu]
   congr 1;omega
def zz{L L':List Value}{p p' s:Nat}(h:∀j,j<s->L[p+j]?=L'[p'+j]?):(L.drop p).take s=(L'.drop p').take s:=by
 apply DE;intro j;rw[jq,jq];by_cases a:j<s
 .rw[aN a,aN a,tu,tu];exact h j a
 .rw[aJ a,aJ a]
def Qe{w:World}{I:Nat->Nat->Prop}{e:Ty}{l f:List e.den}{cur vs F:List Value}{i n m:Nat}(g:l.length=n)(h:f.length=m)(D:i<=n)(A:∀(q:Nat) (x:e.den),l[q]?=aa x->bH w I e x ((cur.drop<|q*e.size).take e.size))(C:fa w I e f vs)
  (o:∀j,j<i*e.size->F[j]?=cur[j]?) (p:∀j,j<m*e.size->F[i*e.size+j]?=vs[j]?) (s:∀j,j<(n-i)*e.size->F[(i+m)*e.size+j]?=cur[i*e.size+j]?) :
  ∀(q:Nat) (x:e.den),(l.take i++f++l.drop i)[q]?=aa x->bH w I e x ((F.drop<|q*e.size).take e.size):=by
 intro q x c;have t:(l.take i).length=i:=by rw[dk];omega
 have step:∀{a b:Nat},a<b->∀j,j<e.size->a*e.size+j<b*e.size:=λ{a b} v j d=>by
  have:(a+1)*e.size<=b*e.size:=gN _ v;rw[iF,Nat.one_mul] at this;omega
 rw[vL,Rb,t] at c;split at c
 .rename_i y;rw[jq,aN y] at c;rw[zz (L':=cur) (p':=q*e.size) λj d=>o _ (step y j d)];exact A q x c
 .rename_i y;obtain⟨r,rfl⟩:∃r,q=i+r:=⟨q-i,ag⟩;rw[show i+r-i=r by omega,Rb,h] at c;split at c
  .rename_i B;rw[zz (L':=vs) (p':=r*e.size) λj d=>by
    rw[iF,En];exact p _ (step B j d)]
   exact C r x c
  .rename_i B;obtain⟨u,rfl⟩:∃u,r=m+u:=⟨r-m,ag⟩;rw[show m+u-m=u by omega,tu] at c;have E:i+u<n:=by rw[<-g];exact(hR.1 c).1
   rw[zz (L':=cur) (p':=(i+u)*e.size) λj d=>by
    have:=s (u*e.size+j) (step (show u<n-i by omega) j d);rw[show(i+(m+u))*e.size+j=(i+m)*e.size+(u*e.size+j) by rw[<-En i m u,iF (i+m) u,En],this]
    congr 1;rw[iF];omega]
   exact A (i+u) x c
def J3{P:Program}(w:World)(d A e:TypeId)(u:P.underlying d=aa (.slice e))(c:Nat)(v:∀w,(Go.sizeOf e).run P w=.ok c w)
  (a b:Addr) (j B l C:Nat) (f:a.block≠b.block) (D E:TypeId) (g x:Nat)
  (m:w.shape? a.block=aa (D,g)) (n:w.shape? b.block=aa (E,x)) (o:g≠0)
  (p:w.frozen? b=false) (q:w.frozen? { block:=b.block,off:=x }=false) :
  (Extern.SlicesOverlaps.overlaps #[d,d] #[A] #[.slice (aa a) j B,.slice (aa b) l C]).run P w=.ok (.bool false) w:=by
 have r:(a.block != b.block)=true:=by simpa using f
 have h:(a.block==b.block)=false:=by simpa using f
 change Sem.run P (α:=Value) (do
  let aa t:=(#[d,d]:Array TypeId)[0]?|stuck "slices.overlaps: no parameter types"
  let .slice elem <-underlying t|stuck "slices.overlaps: slice type expected"
  let c <-sizeOf elem
  match(aa a:Option Addr),(aa b:Option Addr) with
  | some a,aa b =>
    if j=0\/l=0\/c=0 then pure (Value.bool false)
    else if a.block != b.block&&(<-frozen a)&&(<-frozen b) then unsupported .addressObserved
    else do
     if a.block != b.block then do
      noView a;noView b
      if <-mayBeOne a b then return Value.bool ((<-choose (.extern "sameAddr.stringBytes" 2))==1)
     pure (Value.bool<|a.block==b.block&&a.off<b.off+l*c&&b.off<a.off+j*c)
  | _,_=>pure (Value.bool false)) w=_
 by_cases y:j=0\/l=0\/c=0
 .simp[run_underlying u,v,y]
 .cases g with
  | zero=>exact absurd rfl o
  | succ g =>
    cases s:w.frozen? a<;>cases i:w.frozen? { block:=a.block,off:=g+1 } <;>
     simp[run_underlying u,v,y,r,h,frozen,noView,viewAt,mayBeOne,stringish,shape,Sem.run,m,n,s,i,p,q]
def tE{α:Type}(l:List α)(i:Int)(m:List α):Option (List α):=bif inside 0 i (len l)&&fits (plus (len l)<|len m) then aa (l.take i.toNat++m++l.drop i.toNat) else af
variable {P:Program} {ρ:Ren} {nm:String}
def Qf{w:World}{b o:Nat}{cur:Array Value}{c:TypeId}{a:Nat×Nat}(d:w.heap[b]?=aa (.cells cur c a))(h:¬(a.1<=o/\o<a.2)):w.frozen? ⟨b,o,af⟩=false:=by
 obtain⟨e,f⟩:=a;simp only[World.frozen?,d];simp only[not_and,Nat.not_lt] at h;simp;exact h
def agR{e:Ty}(L:U1 P ρ nm e.size)(hnm:(nm == "runtime.NumGoroutine")=false)(he:Den P e (ρ.t 9))(hby:Eu P (ρ.t 9)=true)(V:0<e.size)(hint:e.isInt=false) :
  pA P (ρ.f 22) (.own e (.pair (.int .i64)<|.pair (.slice e) .unit) true λl x=>tE (α:=e.den) l x.1 x.2.1):=by
 refine⟨⟨_,_,L.f22,hnm,rfl⟩,λI w args v rest l l' L0 x hI aef H Us s=>?_⟩;obtain⟨xi,g,xu⟩:=x;change Int at xi;change List e.den at g;obtain⟨cs1,r1,rfl,W,cs2,r2,rfl,hc2,rfl⟩:=Us;obtain⟨W,alU,agB⟩:=W;subst W;change tE (α:=e.den) l xi g=aa l' at s;have hsp:(inside 0 xi (len l)&&fits (plus (len l)<|len g))=true/\l'=l.take xi.toNat++g++l.drop xi.toNat:=by
  unfold tE at s;cases Q:(inside 0 xi (len l)&&fits (plus (len l)<|len g)) with
  | true=>rw[Q] at s;exact⟨rfl,(aF s).symm⟩
  | false=>rw[Q] at s;cases s
 obtain⟨M,rfl⟩:=hsp;simp only[gz] at M;obtain⟨_,hx0,hxl⟩:=jU M.1;have X:l.length+g.length<=4294967296:=by
  have:fits (((l.length+g.length:Nat)):Int)=true:=by rw[<-M.2];simp[plus,len]
  exact FN this
 obtain⟨i,rfl⟩:∃i:Nat,xi=i:=⟨xi.toNat,ag⟩;have hil:i<=l.length:=by simp only[len] at hxl;omega
 rw[vM];obtain⟨v2,rfl⟩:∃v2,cs2=[v2]:=by
  rcases hc2 with ⟨⟨y,q⟩,_⟩|⟨_,_,_,q,_⟩<;>exact⟨_,q⟩
 have ai1:args=#[v,.int .i64 i,v2]:=by apply BL.1;rw[aef];rfl
 subst ai1;obtain⟨ie,ze,e1,e2,e3,e4⟩:=he.info;have hbs:=B1 hby e1;have hzc:ze.cells.size=e.size:=by rw[<-ea e,<-e4];simp
 have R:∀{w':World},w'=w->∃U,lT w I (λk=>∃c,L0=aa (k,c)) w' U/\U=I:=λ{w'} N=>⟨I,by subst N;exact lT.mk' rfl rfl rfl (bX _) (λ_ _ _=>rfl) hI,rfl⟩;rcases hc2 with ⟨⟨Y,q2⟩,J⟩|⟨T,r,vc,q2,hvc,hvm,hvx⟩
 ·
  obtain rfl:v2=.slice Y 0 0:=by simpa using q2
  have J:g=[]:=J;subst J;have C:l.take i++([]:List e.den)++l.drop i=l:=aS;obtain⟨y,n,c,hv,hnl,hnc⟩:∃y n c,v=.slice y n c/\n=l.length/\n<=c:=by
   rcases H with ⟨_,rfl,rfl⟩|⟨blk,a,cur,tid,fr,_,rfl,_,_,q5,_⟩
   .exact⟨af,0,0,rfl,rfl,bX _⟩
   .exact⟨_,_,_,rfl,rfl,q5⟩
  subst hv;refine(Ji L y Y n c i 0 w ag hnc).mono λq w' N=>?_;obtain⟨rfl,rfl⟩:=N;obtain⟨U,hI',rfl⟩:=R rfl;refine⟨U,hI',_,L0,rfl,?_,λblk c h=>.inl ⟨c,h⟩⟩;rw[C];exact H
 .have hvx:∀(i:Nat) (x:e.den),g[i]?=aa x->_:=hvx;obtain rfl:v2=.slice (aa ⟨T,r,af⟩) g.length vc:=by simpa using q2
  obtain⟨p,n1,n2,n3,n4⟩:=Ex (w:=w) (I:=I) (l:=g) (blk:=T) (off:=r) λi x hx=>by
   obtain⟨es,a1,a2,a3⟩:=hvx i x hx;exact⟨es,a1,λj c B=>(a2 j c B).1,a3⟩
  have hel:fa w I e g p:=n4;rcases Y3 g.length with D|D
  ·
   have J:g=[]:=yG.1 D;subst J;have C:l.take i++([]:List e.den)++l.drop i=l:=aS;obtain⟨y,n,c,hv,hnl,hnc⟩:∃y n c,v=.slice y n c/\n=l.length/\n<=c:=by
    rcases H with ⟨_,rfl,rfl⟩|⟨blk,a,cur,tid,fr,_,rfl,_,_,q5,_⟩
    .exact⟨af,0,0,rfl,rfl,bX _⟩
    .exact⟨_,_,_,rfl,rfl,q5⟩
   subst hv;refine(Ji L y (aa ⟨T,r,af⟩) n c i vc w ag hnc).mono λq w' N=>?_;obtain⟨rfl,rfl⟩:=N;obtain⟨U,hI',rfl⟩:=R rfl;refine⟨U,hI',_,L0,rfl,?_,λblk c h=>.inl ⟨c,h⟩⟩;rw[C];exact H
  ·
   have hvI:I T r/\T<w.heap.size/\∃A tA frA,w.heap[T]?=aa (.cells A tA frA)/\A.size≠0:=by
    obtain⟨x0,amD⟩:∃x0,g[0]?=aa x0:=⟨_,fX D⟩;obtain⟨es,a1,a2,a3⟩:=hvx 0 x0 amD;have hes:0<es.length:=ag;obtain⟨b1,b2⟩:=a2 0 es[0] (fX hes);simp only[adn,Fm] at b1 b2;refine⟨b2,hI _ _ b2,?_⟩;simp only[World.cell?] at b1;split at b1
    .rename_i A tA frA hA;refine⟨A,tA,frA,hA,λh0=>?_⟩;simp at b1;have:=(wL.1 b1).1;omega
    .cases b1
   obtain⟨hvI,hvw,A,tA,frA,hA,hA0⟩:=hvI;have S:Src P e.size (ρ.t 24) (.slice (aa ⟨T,r,af⟩) g.length vc) g.length p w:=Src.ofSlice w L.t24 ⟨T,r,af⟩ g.length vc p n1 (λj u B=>by rw[addr_add];exact n2 j u B) n3;have qV:∀{w':World} {a:Nat} {cells:Array Value} {blk:Nat} {fr':Nat×Nat},w'.os=w.os->w'.tape=w.tape->w'.output=w.output->w.heap.size<=w'.heap.size->(∀q,q<w.heap.size->w'.heap[q]?=w.heap[q]?) ->
     blk=w.heap.size->w'.heap[blk]?=aa (.cells cells (ρ.t 9) (0,0))->l.length+g.length<=a->a<=maxLen->cells.size=a*e.size ->
     (∀(q:Nat) (x:e.den),(l.take i++g++l.drop i)[q]?=aa x->bH w I e x ((cells.toList.drop<|q*e.size).take e.size)) ->
     ∃U,lT w I (λk=>∃c,L0=aa (k,c)) w' U/\∃v' L',Ending.returned (.slice (aa ⟨w.heap.size,0,af⟩) (l.length+g.length) a)=.returned v'/\w9 w' U e (l.take i++g++l.drop i) L' v'/\∀blk c,L'=aa (blk,c)->(∃c,L0=aa (blk,c))\/w.heap.size<=blk:=by
    intro w' a cells blk fr' o1 o2 o3 o4 o5 hbk K W hc2 hc3 ai2;subst hbk;have hlen:(l.take i++g++l.drop i).length=l.length+g.length:=cJ;refine⟨I,lT.mk' o1 o2 o3 o4 (λq Q _=>o5 q Q) hI,_,aa (w.heap.size,a),rfl,.inr ⟨w.heap.size,a,cells,ρ.t 9,(0,0),rfl,by rw[hlen],K,wX _ _,by rw[hlen];exact W,hc2,hc3,λo hi=>by have:=hI _ _ hi;omega,λq x hx=>?_⟩,λblk c h=>by
     obtain⟨rfl,_⟩:=eh (aF h);exact .inr (bX _)⟩
    exact bH.mono (λ_ _ h=>h) (λb o hi=>dH (o5 b<|hI b o hi)) (ai2 q x hx)
   rcases H with ⟨rfl,rfl,rfl⟩|⟨blk,a,cur,tid,fr,rfl,rfl,q3,q4,q5,q6,q7,q8,q9⟩
   ·
    obtain rfl:i=0:=by simpa using hil
    obtain⟨a,cells,g1,g2,g3,g4,g5⟩:=B2 (P:=P) (I:=I) (ty:=ρ.t 24) (l:=([]:List e.den)) (base:=af) (sCap:=0) (olds:=[]) L.t24 he hby (by simpa using run_firstCells_none w.drew e.size 0 0 0) aS (λi x hx=>by cases hx) S hel
     (by simpa using D) (by simpa using X)
    simp only[pM,BD,JJ] at g1 g2 g5;refine(Sa L af 0 0 g.length vc (aa ⟨T,r,af⟩) w _ _ D (bX _) g1).mono λq w' N=>?_;obtain⟨rfl,rfl⟩:=N;have:=qV (w':=w.drew.alloc (.cells cells<|ρ.t 9)) (fr':=(0,0)) rfl rfl rfl aS (λq Q=>da w.drew _ q Q) rfl (heap_alloc_new w.drew _) (by simpa using g2) g3 g4 (λq x hx=>g5 q x (by simpa using hx));simpa using this
   .have aiK:blk<w.heap.size:=(wL.1 q3).1;have hcl:cur.toList.length=a*e.size:=by simpa using q7
    have hlk:l.length*e.size<=a*e.size:=gN _ q5;have hne:T≠blk:=λh=>q8 r (h▸hvI);have akP:∀v∈cur.toList.take (l.length*e.size),v.oneCell'=true:=by
     intro v hv;obtain⟨j,B⟩:=PG.1 hv;rw[jq] at B;split at B
     .rename_i hjl;have hd:j / e.size<l.length:=by rw[YW V];exact hjl
      have hm:=q9 (j / e.size) l[j / e.size] (fX hd);refine hm.one v ?_;have amE:=BE j V;have hjj:j / e.size*e.size+j % e.size=j:=by rw[TQ];exact TL j e.size
      refine dW (i:=j % e.size) ?_;rw[jq,aN amE,tu,hjj];exact B
     .cases B
    have aij:∀{w':World} {F:List Value},w'.os=w.os->w'.tape=w.tape->w'.output=w.output->w.heap.size<=w'.heap.size->(∀q,q<w.heap.size->q≠blk->w'.heap[q]?=w.heap[q]?) ->
      w'.heap[blk]?=aa (.cells F.toArray tid fr)->F.length=a*e.size->l.length+g.length<=a ->
      (∀(q:Nat) (x:e.den),(l.take i++g++l.drop i)[q]?=aa x->bH w I e x ((F.drop<|q*e.size).take e.size)) ->
      ∃U,lT w I (λk=>∃c,aa (blk,a)=aa (k,c)) w' U/\∃v' L',Ending.returned (.slice (aa ⟨blk,0,af⟩) (l.length+g.length) a)=.returned v'/\w9 w' U e (l.take i++g++l.drop i) L' v'/\∀b c,L'=aa (b,c)->(∃c,aa (blk,a)=aa (b,c))\/w.heap.size<=b:=by
     intro w' F o1 o2 o3 o4 o5 K hF d ai2;have hlen:(l.take i++g++l.drop i).length=l.length+g.length:=cJ;have WG:F.toArray.size=cur.size:=by rw[Lg,hF,q7]
     refine⟨I,lT.mk' o1 o2 o3 o4 (λq Q hn=>o5 q Q λe=>hn ⟨a,by rw[e]⟩) hI,_,aa (blk,a),rfl,.inr ⟨blk,a,F.toArray,tid,fr,rfl,by rw[hlen],K,q4.same WG,by rw[hlen];exact d,q6,by rw[WG];exact q7,q8,λq x hx=>?_⟩,λb c h=>.inl ⟨c,h⟩⟩;refine bH.mono (λ_ _ h=>h) (λb o hi=>dH (o5 b (hI b o hi) λe=>?_)) (ai2 q x hx);subst e;exact q8 o hi
    rcases rR i l.length with Uj|Uj
    .rcases rR a (l.length+g.length) with d|d
     ·
      refine(aem L blk l.length a i T r g.length vc [] p w e1 e2 e3 hzc V hbs Uj D q5 d X q3 q7 akP n1 n2 hvw n3).mono λq w' N=>?_;obtain⟨G,Z,hG1,hG2,hZ,rfl,rfl⟩:=N;have hRk:(l.length+g.length)*e.size<=G*e.size:=gN _ hG1;have O:i*e.size+p.length<=(cur.toList.take (i*e.size)++Z).length:=by
       rw[hZ,n1,<-iF];exact gN _ ag
      have hs1:=bP O;have hl1:((cur.toList.take<|l.length*e.size).drop<|i*e.size).length=(l.length-i)*e.size:=by
       rw[qU,dk,wO ag,TS]
      have E:(i+g.length)*e.size+((cur.toList.take<|l.length*e.size).drop<|i*e.size).length<=(ba (cur.toList.take (i*e.size)++Z) (i*e.size) p).length:=by
       rw[hs1,hZ,hl1,<-iF];exact gN _ ag
      have hs2:=bP E;have hik:i*e.size<=l.length*e.size:=gN _ ag;have hti:(cur.toList.take<|i*e.size).length=i*e.size:=by rw[dk];omega
      have K:(((w.drew.alloc<|.cells (cur.toList.take (i*e.size)++Z).toArray<|ρ.t 9).setRow w.heap.size (ba (cur.toList.take (i*e.size)++Z) (i*e.size) p).toArray).drew.setRow w.heap.size (ba (ba (cur.toList.take (i*e.size)++Z) (i*e.size) p) ((i+g.length)*e.size)<|(cur.toList.take<|l.length*e.size).drop<|i*e.size).toArray).heap[w.heap.size]? =
        aa (.cells (ba (ba (cur.toList.take (i*e.size)++Z) (i*e.size) p) ((i+g.length)*e.size)<|(cur.toList.take<|l.length*e.size).drop<|i*e.size).toArray (ρ.t 9) (0,0)) :=
       setRow_heap _ _ _ _ _ _ (show((w.drew.alloc<|.cells (cur.toList.take (i*e.size)++Z).toArray<|ρ.t 9).setRow w.heap.size (ba (cur.toList.take (i*e.size)++Z) (i*e.size) p).toArray).drew.heap[w.heap.size]?=_ from setRow_heap _ _ _ _ _ _ (heap_alloc_new w.drew _))
      refine qV (fr':=(0,0)) rfl rfl rfl aS (λq Q=>?_) rfl K hG1 hG2 (by rw[Lg,hs2,hs1,hZ]) ?_
      .rw[setRow_other _ _ _ _ ag];show((w.drew.alloc _).setRow w.heap.size _).heap[q]?=_
       rw[setRow_other _ _ _ _ ag];exact da w.drew _ q Q
      .refine Qe (cur:=cur.toList) (vs:=p) (n:=l.length) (m:=g.length) rfl rfl hil q9 hel (λj B=>?_) (λj B=>?_) (λj B=>?_)
       .rw[cS E,aN (by rw[iF];omega),cS O,aN B,Tz (by rw[hti];exact B),jq,aN B]
       .rw[cS E,aN (by rw[iF];omega),cS O,aJ ag,aN (by rw[n1];omega)]
        congr 1;omega
       .rw[cS E,aJ ag,aN (by rw[hl1];omega),tu,jq,aN (by
         have:i*e.size+(l.length-i)*e.size=l.length*e.size:=by rw[<-iF];congr 1;omega
         omega)]
        congr 1;omega
     ·
      have hmk:(l.length+g.length)*e.size<=a*e.size:=gN _ d;have ai0:(i+g.length)*e.size<=a*e.size:=gN _ ag;refine(aa5 L blk l.length a i T r g.length vc [] p w Uj D d (by unfold maxLen at q6;omega) hne q3 q4.th q7 akP n1 n2 n3 λlb cb=>?_).mono λq w' N=>?_
      .refine J3 w _ _ (ρ.t 9) L.t24 e.size L.z9 ⟨T,r,af⟩ ⟨blk,(i+g.length)*e.size,af⟩ g.length vc lb cb hne tA tid A.size cur.size (by simp[World.shape?,hA]) (by simp[World.shape?,q3]) hA0 ?_ ?_
       .refine Qf q3 ?_;rcases rR ((i+g.length)*e.size) cur.size with hlt|hge
        .exact q4.th _ hlt
        .have:(i+g.length)*e.size=cur.size:=ag;rw[this];exact q4.um hint
       .exact Qf q3 (q4.um hint)
      .obtain⟨rfl,rfl⟩:=N;have hik:i*e.size<=l.length*e.size:=gN _ ag;have hl1:((cur.toList.take<|l.length*e.size).drop<|i*e.size).length=(l.length-i)*e.size:=by
        rw[qU,dk,wO ag,TS]
       have O:(i+g.length)*e.size+((cur.toList.take<|l.length*e.size).drop<|i*e.size).length<=cur.toList.length:=by
        rw[hl1,hcl,<-iF];exact gN _ ag
       have hs1:=bP O;have E:i*e.size+p.length<=(ba cur.toList ((i+g.length)*e.size)<|(cur.toList.take<|l.length*e.size).drop<|i*e.size).length:=by
        rw[hs1,hcl,n1,<-iF];exact ai0
       have hs2:=bP E;refine aij rfl rfl rfl aS (λq Q hqb=>?_) (setRow_heap _ _ _ _ _ _<|setRow_heap w.drew blk cur _ tid fr q3) (by rw[hs2,hs1,hcl]) d ?_
       .rw[setRow_other _ _ _ _ hqb,setRow_other _ _ _ _ hqb];rfl
       .refine Qe (cur:=cur.toList) (vs:=p) (n:=l.length) (m:=g.length) rfl rfl hil q9 hel (λj B=>?_) (λj B=>?_) (λj B=>?_)
        .rw[cS E,aN B,cS O,aN (by rw[iF];omega)]
        .rw[cS E,aJ ag,aN (by rw[n1];omega)]
         congr 1;omega
        .rw[cS E,aJ (by rw[iF];omega),aJ (by rw[n1,iF];omega),cS O,aJ ag,aN (by rw[hl1];omega),tu,jq,aN (by
          have:i*e.size+(l.length-i)*e.size=l.length*e.size:=by rw[<-iF];congr 1;omega
          omega)]
         congr 1;omega
    ·
     obtain rfl:i=l.length:=ag;have C:l.take l.length++g++l.drop l.length=l++g:=aS;rcases rR a (l.length+g.length) with d|d
     .have hfc:=run_firstCells_some (P:=P) w.drew e.size l.length ⟨blk,0,af⟩ l.length a (cur.toList.take<|l.length*e.size) (by rw[dk];omega) (λj v B=>by
       rw[addr_add];show w.cell? ⟨blk,0+j,af⟩=aa v
       rw[cell_of_heap q3];rw[jq] at B;split at B
       .simpa using B
       .cases B)
      obtain⟨alS,cells,g1,g2,g3,g4,g5⟩:=B2 (P:=P) (I:=I) (ty:=ρ.t 24) (l:=l) (base:=aa ⟨blk,0,af⟩) (sCap:=a) L.t24 he hby hfc (by rw[dk];omega) (fa.front (n:=l.length*e.size) q9 (bX _) ag) S hel d X;refine(Sa L _ l.length a g.length vc _ w _ _ D q5 g1).mono λq w' N=>?_;obtain⟨rfl,rfl⟩:=N;exact qV (w':=w.drew.alloc (.cells cells<|ρ.t 9)) (fr':=(0,0)) rfl rfl rfl aS (λq Q=>da w.drew _ q Q) rfl (heap_alloc_new w.drew _) g2 g3 g4 (by rw[C];exact g5)
     .have hnl:=S.newsLen;have hmul:(l.length+g.length)*e.size<=a*e.size:=gN _ d;rw[iF] at hmul;have hlen:l.length*e.size+p.length<=cur.toList.length:=by rw[hnl,hcl];exact hmul
      have aiN:=lQ (P:=P) (t:=ρ.t 24) (tx:=ρ.t 24) (ty:=ρ.t 24) (sCap:=a) L.t24 (L.z9 w) S q3 q4.th d (by simpa using hlen);refine(Sa L _ l.length a g.length vc _ w _ _ D q5 aiN).mono λq w' N=>?_;obtain⟨rfl,rfl⟩:=N;refine aij rfl rfl rfl aS (λq Q hqb=>setRow_other _ _ _ _ hqb) (setRow_heap w blk cur _ tid fr q3) (by rw[bP hlen,hcl]) d ?_;rw[C];have:=(fa.front (n:=l.length*e.size) q9 (bX _) ag).append (rest:=cur.toList.drop (l.length*e.size+p.length)) hel (by rw[dk];omega) hnl;exact this
end Go.Ge
namespace Go.Ge
variable [Lp]
open RowKit Go.Shelf Go.Lib Go.Proofs
def J4{P ops o a w K Q E}
  (e:o.guard=af) s x t (c:o.op=Op.call { callee:=Callee.builtin Builtin.append,args:=#[s,x],argTypes:=#[t,t] })
  vs d v w1 (hs:a.eval s=vs) (hx:a.eval x=d) (b:(Builtin.append_ #[t,t] o.type #[vs,d]).run P w=.ok v w1) (f:K (a.put o.dst v) w1) :
  if Region.wanted o (yielded ops a.tmps)=true then Oper.wp P o a w K Q else E:=by
 rw[aN<|by simp[Region.wanted,e]];unfold Oper.wp;simp[execOp,c,resolve,invoke,builtin,hs,hx,b];exact f
def U2{P} w f ty elem b o n cap {z cur g a}
  (h:P.underlying f=aa (.slice elem)) (hv:∀w,(zeroValue elem).run P w=.ok z w) (i:∀u∈(Builtin.zeroCells z.cells n).toList,u.oneCell'=true) (hn:0<n)
  (j:w.heap[b]?=aa (.cells cur g a)) (c:ni cur a) (d:o+(Builtin.zeroCells z.cells n).size<=cur.size) :
  (Builtin.clear_ #[f] ty #[.slice (aa ⟨b,o,af⟩) n cap]).run P w=.ok (.tuple #[]) (w.setRow b (ba cur.toList o (Builtin.zeroCells z.cells n).toList).toArray):=by
 have e:=dx (P:=P) b o g a (Builtin.zeroCells z.cells n).toList 0 cur w j c (by simpa using d) i;obtain⟨m,rfl⟩:∃m,n=m+1:=⟨n-1,ag⟩;simp[Builtin.clear_,run_underlying h,hv,e]
structure aen (P:Program) (ρ:Ren) (nm:String) (k:Nat) (z:Value):Prop where
 mixed:P.follows .mixedOrders=true
 f24:P.funcs[ρ.f 24]?=aa { Body2.n24 ρ with name:=nm }
 t3:P.underlying (ρ.t 3)=aa (TypeDesc.int i64)
 t4:P.underlying (ρ.t 4)=aa TypeDesc.bool
 t24:P.underlying (ρ.t 24)=aa (TypeDesc.slice<|ρ.t 9)
 z9:∀w,(Go.sizeOf<|ρ.t 9).run P w=.ok k w
 v9:∀w,(zeroValue<|ρ.t 9).run P w=.ok z w
variable {P:Program} {ρ:Ren} {nm:String} {k:Nat} {z:Value}
set_option maxHeartbeats 4000000 in
set_option maxRecDepth 100000 in
def U3(L:aen P ρ nm k z) base n c i w (hi:i<=n) (a:n<=c) :
  Calls P (ρ.f 24) #[.slice base n c,.int .i64 i,.int .i64 i] w λe w'=>e=.returned (.slice base n c)/\w'=w:=by
 have t24:=L.t24;have z9:=L.z9
 go_enter L.f24,Body2.n24_ntmps ρ
 go_wp2
 all_goals (go_ret;exact⟨rfl,rfl⟩)
set_option maxHeartbeats 4000000 in
set_option maxRecDepth 100000 in
def aeo(L:aen P ρ nm k z) b n c i j w w1 w2 (l:i<j) (r:j<=n) (m:n<=c) (_hc63:c<=9223372036854775807)
  (d:∀A,(A=⟨b,j*k,af⟩\/(c=j/\A=⟨b,0,af⟩))->(Builtin.append_ #[ρ.t 24,ρ.t 24] (ρ.t 24) #[.slice (aa ⟨b,0,af⟩) i c,.slice (aa A) (n-j) (c-j)]).run P w.drew=.ok (.slice (aa ⟨b,0,af⟩) (i+(n-j)) c) w1)
  (o:∀p,(Builtin.clear_ #[ρ.t 24] p #[.slice (aa ⟨b,(i+(n-j))*k,af⟩) (n-(i+(n-j)))<|c-(i+(n-j))]).run P w1=.ok (.tuple #[]) w2) :
  Calls P (ρ.f 24) #[.slice (aa ⟨b,0,af⟩) n c,.int .i64 i,.int .i64 j] w λe w'=>e=.returned (.slice (aa ⟨b,0,af⟩) (i+(n-j)) c)/\w'=w2:=by
 have t24:=L.t24;have z9:=L.z9;have mixed:=L.mixed;obtain⟨A,s,g⟩:∃A:Addr,(if c=j then aa ⟨b,0,af⟩ else aa ⟨b,j*k,af⟩)=aa A/\(A=⟨b,j*k,af⟩\/(c=j/\A=⟨b,0,af⟩)):=by
  by_cases h:c=j
  .exact⟨⟨b,0,af⟩,by simp[h],.inr ⟨h,rfl⟩⟩
  .exact⟨⟨b,j*k,af⟩,by simp[h],.inl rfl⟩
 have a:=d A g;have q:i<=c:=ag
 go_enter L.f24,Body2.n24_ntmps ρ
 go_wp2_with fail
 go_region_law_o (refine J4 rfl _ _ _ rfl _ _ _ w1 (by simp[Act.eval,Act.put]) (by simp[Act.eval,Act.put]) a ?_)
 go_wp2
 go_ret
 exact⟨rfl,rfl⟩
def J5{α:Type}(l:List α)(i j:Int):Option (List α):=bif inside i j (len l) then aa (l.take i.toNat++l.drop j.toNat) else af
def aa6{w I e}{l:List e.den}{c F:List Value}{i j n}(g:l.length=n)(v:i<=j)(y:j<=n)(u:∀q x,l[q]?=aa x->bH w I e x ((c.drop<|q*e.size).take e.size))
  (h:∀t,t<i*e.size->F[t]?=c[t]?) (m:∀t,t<(n-j)*e.size->F[i*e.size+t]?=c[j*e.size+t]?) :
  ∀q x,(l.take i++l.drop j)[q]?=aa x->bH w I e x ((F.drop<|q*e.size).take e.size):=by
 intro q x d;have o:(l.take i).length=i:=by rw[dk];omega
 have step:∀{a b},a<b->∀t,t<e.size->a*e.size+t<b*e.size:=λ{a b} p t f=>by
  have:(a+1)*e.size<=b*e.size:=gN _ p;rw[iF] at this;omega
 rw[Rb,o] at d;split at d
 .rename_i s;rw[jq,aN s] at d;rw[zz (L':=c) (p':=q*e.size) λt f=>h _ (step s t f)];exact u q x d
 .rename_i s;obtain⟨r,rfl⟩:∃r,q=i+r:=⟨q-i,ag⟩;rw[show i+r-i=r by omega,tu] at d;have A:j+r<n:=by rw[<-g];exact(hR.1 d).1
  rw[zz (L':=c) (p':=(j+r)*e.size) λt f=>by
   have:=m (r*e.size+t) (step ag t f);rw[show _*e.size+t=i*e.size+_ by rw[iF,En],this]
   congr 1;rw[iF];omega]
  exact u _ x d
def agS{e}(L:aen P ρ nm e.size z)(hnm:(nm == "runtime.NumGoroutine")=false)(hz:z.cells.toList=e9 e)(H:0<e.size) :
  pA P (ρ.f 24) (.own e (.pair (.int .i64)<|.pair (.int .i64) .unit) true λl x=>J5 (α:=e.den) l x.1 x.2.1):=by
 refine⟨⟨_,_,L.f24,hnm,rfl⟩,λI w V v rest l l' L0 x hI J y K d=>?_⟩;have hz1:=λu hu=>(jE w I e).one u hu;obtain⟨M,N,xu⟩:=x;change Int at M;change Int at N;obtain⟨cs1,r1,rfl,O,cs2,r2,rfl,Q,rfl⟩:=K;obtain⟨O,_,_⟩:=O;obtain⟨Q,_,_⟩:=Q;subst O Q;change J5 l M N=aa l' at d;have hsp:inside M N (len l)=true/\l'=l.take M.toNat++l.drop N.toNat:=by
  unfold J5 at d;cases hq:inside M N _ with
  | true=>rw[hq] at d;exact⟨rfl,(aF d).symm⟩
  | false=>rw[hq] at d;cases d
 obtain⟨R,rfl⟩:=hsp;obtain⟨hx0,hxl,hxn⟩:=jU R;simp only[len] at hxn;obtain⟨i,rfl⟩:∃i:Nat,M=i:=⟨M.toNat,ag⟩;obtain⟨j,rfl⟩:∃j:Nat,N=j:=⟨N.toNat,ag⟩;have hij:i<=j:=ag;have hj:j<=l.length:=ag;rw[vM,vM];have D:V=#[v,.int .i64 i,.int .i64 j]:=by apply BL.1;rw[J];rfl
 subst D;rcases rR i j with hlt|hge
 .rcases y with ⟨rfl,rfl,rfl⟩|⟨g,r,m,tid,fr,rfl,rfl,q3,q4,q5,q6,q7,q8,q9⟩
  .simp at hj;omega
  .have W:m.toList.length=r*e.size:=by simpa using q7
   have hlk:l.length*e.size<=r*e.size:=gN _ q5;have X:∀v∈m.toList.take (l.length*e.size),v.oneCell'=true:=by
    intro v U;obtain⟨t,s⟩:=PG.1 U;rw[jq] at s;split at s
    .rename_i htl;have hd:t / e.size<l.length:=by rw[YW H];exact htl
     have hm:=q9 _ l[t / e.size] (fX hd);refine hm.one v ?_;have Y:=BE t H;have htt:t / e.size*e.size+t % e.size=t:=by rw[TQ];exact TL t e.size
     refine dW (i:=t % e.size) ?_;rw[jq,aN Y,tu,htt];exact s
    .cases s
   obtain⟨a,p⟩:∃a,a=(m.toList.take<|l.length*e.size).drop (j*e.size):=⟨_,rfl⟩;have E:a.length=(l.length-j)*e.size:=by
    rw[p,qU,dk,wO ag,TS]
   have F:i*e.size+a.length<=m.toList.length:=by rw[E,W];exact(by rw[<-iF];exact gN _ ag)
   have S:=bP F;obtain⟨Z,hZ⟩:∃Z,Z=(Builtin.zeroCells z.cells<|l.length-(i+(l.length-j))).toList:=⟨_,rfl⟩;have hzs:z.cells.size=e.size:=by rw[<-ea e,<-hz];simp
   have hZl:Z.length=(l.length-(i+(l.length-j)))*e.size:=by rw[hZ];simp[Builtin.zeroCells,hzs]
   have hZ1:∀u∈(Builtin.zeroCells z.cells<|l.length-(i+(l.length-j))).toList,u.oneCell'=true:=by
    intro u hu;simp only[Builtin.zeroCells] at hu;obtain⟨t,s⟩:=PG.1 hu;simp at s;obtain⟨t1,_,ht2⟩:=s;refine hz1 u ?_;rw[<-hz,<-ht2,getElem!_pos z.cells _ (BE _ ag)];simp
   have G:(i+(l.length-j))*e.size+Z.length<=(ba m.toList (i*e.size) a).length:=by
    rw[S,W,hZl,<-iF];exact gN _ ag
   have T:w.drew.heap[g]?=aa _:=q3;have hg1:(w.drew.setRow g (ba m.toList (i*e.size) a).toArray).heap[g]?=aa _:=setRow_heap w.drew g m _ tid fr T;have amG:=λty=>U2 _ _ ty _ g _ _ (r-(i+(l.length-j))) L.t24 L.v9 hZ1 ag hg1 (q4.th.same<|by rw[Lg,S];simp) (by
    rw[Lg,<-hZ];exact G)
   refine(aeo L g l.length r i j w _ _ hlt hj q5 (by unfold maxLen at q6;omega) (λA hA=>?_) amG).mono λq w' hw=>?_
   .have amH:Src P e.size _ (.slice _ _<|r-j) _ a w.drew:=Src.ofSlice w.drew L.t24 A _ _ a E (λt u s=>by
     rcases hA with rfl|⟨hc,rfl⟩
     .rw[addr_add,cell_of_heap T];rw[p,tu,jq] at s;split at s
      .simpa using s
      .cases s
     .have h0:a.length=0:=by rw[E,show l.length-j=0 by omega];simp
      rw[yG.1 h0] at s;cases s) (λv U=>X v (by rw[p] at U;exact PH U))
    exact lQ L.t24 (L.z9 w.drew) amH T q4.th ag (by simpa using F)
   .obtain⟨rfl,rfl⟩:=hw;have hlen:(l.take i++l.drop j).length=i+(l.length-j):=cJ;have WG:(ba (ba m.toList (i*e.size) a) ((i+(l.length-j))*e.size) Z).toArray.size=m.size:=by rw[Lg,(bP G),S];simp
    rw[<-hZ];refine⟨I,lT.mk' rfl rfl rfl aS (λq hq hn=>?_) hI,_,aa _,rfl,.inr ⟨g,r,(ba _ _ Z).toArray,tid,fr,rfl,by rw[hlen],setRow_heap _ _ _ _ _ _ hg1,q4.same WG,by rw[hlen];omega,q6,by rw[WG];exact q7,q8,λq x hx=>?_⟩,λb c h=>.inl ⟨c,h⟩⟩
    .have B:q≠g:=λe=>hn ⟨r,by rw[e]⟩;rw[setRow_other _ _ _ _ B,setRow_other _ _ _ _ B];rfl
    .refine bH.mono (λ_ _ h=>h) (λb o hi=>dH (by
      have B:b≠g:=λe=>q8 o (e▸hi);rw[setRow_other _ _ _ _ B,setRow_other _ _ _ _ B];rfl)) (aa6 rfl hij hj q9 (λt s=>?_) (λt s=>?_) q x hx)
     .rw[cS G,aN (by rw[iF];omega),cS F,aN s]
     .rw[cS G,aN (by rw[iF];omega),cS F,aJ ag,aN ag,p,tu,jq,aN (by
       have:j*e.size+(l.length-j)*e.size=l.length*e.size:=by rw[<-iF];congr 1;omega
       omega)]
      congr 1;omega
 .obtain rfl:i=j:=ag;obtain⟨C,n,c,U,E,hnc⟩:∃C n c,v=.slice C n c/\n=l.length/\n<=c:=by
   rcases y with ⟨_,rfl,rfl⟩|⟨g,r,m,tid,fr,_,rfl,_,_,q5,_⟩
   .exact⟨af,0,0,rfl,rfl,bX _⟩
   .exact⟨_,_,_,rfl,rfl,q5⟩
  subst U;refine(U3 L C n c i w ag hnc).mono λq w' hw=>?_;obtain⟨rfl,rfl⟩:=hw;refine⟨I,lT.mk' rfl rfl rfl (bX _) (λ_ _ _=>rfl) hI,_,L0,rfl,?_,λg c h=>.inl ⟨c,h⟩⟩;rw[(Fk i l)];exact y
end Go.Ge
namespace Go.Ge
variable [Lp]
def J6{c:Type}(a b:Option c):Prop:=∀y,a=aa y->b=aa y
def J6.refl{α:Type}(a:Option α):J6 a a:=λ_ h=>h
def J6.ae{b g:Type}{a c:Option b}{f d:b->Option g}(h:J6 a c)(k:∀x,J6 (f x) (d x)):J6 (ae a f) (ae c d):=λy e=>by
 cases a with
 | none=>cases e
 | some x=>rw[h x rfl];exact k x y e
def J6.ak{α:Type}{c:Bool}{a d b e:Option α}(h:J6 a d)(k:J6 b e):J6 (ak c a b) (ak c d e):=by cases c<;>assumption
def J6.cond{α:Type}{c:Bool}{a d b e:Option α}(h:J6 a d)(k:J6 b e):J6 (cond c a b) (cond c d e):=by cases c<;>assumption
def J6.cl{S:Type}{a b:Option (S⊕(Nat×S))}(h:J6 a b):J6 (cl a) (cl b):=λy c=>by
 cases a with
 | none=>cases c
 | some x=>rw[h x rfl];exact c
def J6.pick{a b c:Type}{f d:a->Option c}{g e:b->Option c}{x:a⊕b}(h:∀y,J6 (f y) (d y))(k:∀y,J6 (g y) (e y)):J6 (pick f g x) (pick d e x):=by
 cases x with
 | inl y=>exact h y
 | inr y=>exact k y
def akS{S R:Type}(f:S->Option (S⊕R))(s:S):Option R:=rounds f 100000 s
def J6.loop{S R:Type}{f g:S->Option (S⊕R)}{s:S}(h:∀s,J6 (f s) (g s)):J6 (akS f s) (Loop g s):=by
 have key:∀(n:Nat) (s:S),J6 (rounds f n s) (rounds g n s):=by
  intro n;induction n with
  | zero=>intro s y a;cases a
  | succ n c =>
    intro s y a;unfold rounds at a⊢;cases b:f s with
    | none=>rw[b] at a;cases a
    | some x =>
      rw[h s x b];rw[b] at a;cases x with
      | inl d=>exact c d y a
      | inr r=>exact a
 exact λy a=>rY (key _ s y a)
abbrev Sig:=Nat×Ty×Ty
end Go.Ge
