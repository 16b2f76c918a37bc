import Derived.Test.YtgklgliokhbcnaaGreatDoorHolds
import Derived.BigCall
import Derived.Tactics2
import Derived.Laws.Pointers
import Derived.RegionTactic
import Derived.RegionCalls
set_option linter.unusedVariables false
set_option linter.unusedSectionVars false
set_option linter.unusedSimpArgs false
set_option linter.defProp false
open Option renaming some->aa,none->af
namespace Go.Proofs.YtgklgliokhbcnaaGreatDoor
open Go Go.Ge Go.RowKit Go.Ge.W24
variable [Lp]
def evs(a:Nat)(b c d:Int):List Value:=[.int .i64 1,.int .i64 14,.int .i64 3,.string ⟨#[97]⟩,.string ⟨#[]⟩,.slice af 0 0,.string ⟨#[]⟩,.string ⟨#[]⟩,.int .i64 0,.int .i64 1,.int .i64 b,.int .i64 1,.int .i64 0,.string ⟨#[48,48,48,48,48,49]⟩,.int .i64 0,.string ⟨#[]⟩,
 .int .i64 2,.int .i64 1,.int .i64 0,.string ⟨#[]⟩,.string ⟨#[]⟩,.slice (aa ⟨a,0,af⟩) 1 1,.string ⟨#[]⟩,.string ⟨#[]⟩,.int .i64 1,.int .i64 c,.int .i64 d,.int .i64 1,.int .i64 0,.string ⟨#[48,48,48,48,48,49]⟩,.int .i64 0,.string ⟨#[]⟩]
structure At (W:World) (nb eb:Nat) (n0 b1 n1:Int):Prop where
 nm:W.cell? ⟨nb,0,af⟩=aa (.string ⟨#[97]⟩)
 ev:∀(j:Nat) v,(evs nb n0 b1 n1)[j]?=aa v->W.cell? ⟨eb,j,af⟩=aa v
 nb:nb<W.heap.size
 eb:eb<W.heap.size
def im(a b:Nat)(k o:Nat):Prop:=(k=a/\o=0)\/(k=b/\o<32)
def af6(a b c:Int):s7:=([evF 1 a,evL b c],[],())
abbrev am5:Ty:=.pair (.int .i64) (.pair (.pair (.int .i64)<|.pair (.int .i64)<|.pair .str<|.pair .str<|.pair (.slice .str)<|.pair .str<|.pair .str<|.pair (.int .i64) .unit)<|.pair (.int .i64)<|.pair (.int .i64)<|.pair (.int .i64)<|.pair (.pair (.int .i64)<|.pair .str<|.pair (.int .i64)<|.pair .str .unit) .unit)
def Tq(n:Int):Prop:=IntKind.i64.min<=n/\n<=IntKind.i64.max
def At.rep{W nb eb b d e}(h:At W nb eb b d e)(m:Tq b)(o:Tq d)(p:Tq e):bH W (im nb eb) (.slice am5) [evF 1 b,evL d e] [.slice (aa ⟨eb,0,af⟩) 2 2]:=by
 have nm:bH W (im nb eb) (.slice .str) [[97]] [.slice (aa ⟨nb,0,af⟩) 1 1]:=by
  refine .inr ⟨nb,0,1,rfl,aD,aD,λi x a=>?_⟩;cases i with
  | zero =>
    obtain rfl:=aF a;refine⟨[.string ⟨#[97]⟩],rfl,λj c f=>?_,rfl,aD⟩;cases j with
    | zero=>obtain rfl:=aF f;exact⟨h.nm,.inl ⟨rfl,rfl⟩⟩
    | succ j=>cases f
  | succ i=>cases a
 have st:∀s:bg,s.length<=100->bH W (im nb eb) .str s [.string ⟨s.toArray⟩]:=λs hs=>⟨rfl,gi hs aD⟩;have num:∀n:Int,Tq n->bH W (im nb eb) (.int .i64) n [.int .i64 n]:=λn hn=>⟨rfl,hn.1,hn.2⟩;have nil:bH W (im nb eb) (.slice .str) ([]:List bg) [.slice af 0 0]:=.inl ⟨⟨af,rfl⟩,rfl⟩;refine .inr ⟨eb,0,2,rfl,bX 2,aD,λi x a=>?_⟩;have cell:∀k (cs:List Value),k*16+cs.length<=32->((evs nb b d e).drop<|k*16).take cs.length=cs->∀(j:Nat) c,cs[j]?=aa c->W.cell? ⟨eb,0+k*16+j,af⟩=aa c/\im nb eb eb (0+k*16+j):=λk cs q g j c f=>by
  have l:=av f;rw[<-g,jq,aN l,tu] at f;rw[BD];exact⟨h.ev _ _ f,.inr ⟨rfl,ag⟩⟩
 match i,a with
 | 0,a =>
   obtain rfl:=aF a;refine⟨(evs nb b d e).take 16,rfl,cell 0 _ (show 0*16+16<=32 from aD) rfl,?_⟩;exact⟨[_],_,rfl,num 1 ⟨aD,aD⟩,[_,_,_,_,_,_,_,_],_,rfl,
    ⟨[_],_,rfl,num 14 ⟨aD,aD⟩,[_],_,rfl,num 3 ⟨aD,aD⟩,[_],_,rfl,st [97] aD,[_],_,rfl,st [] aD,[_],_,rfl,nil,[_],_,rfl,st [] aD,[_],_,rfl,st [] aD,[_],_,rfl,num 0 ⟨aD,aD⟩,rfl⟩,
    [_],_,rfl,num 1 ⟨aD,aD⟩,[_],_,rfl,num b m,[_],_,rfl,num 1 ⟨aD,aD⟩,[_,_,_,_],_,rfl,
    ⟨[_],_,rfl,num 0 ⟨aD,aD⟩,[_],_,rfl,st [48,48,48,48,48,49] aD,[_],_,rfl,num 0 ⟨aD,aD⟩,[_],_,rfl,st [] aD,rfl⟩,rfl⟩
 | 1,a =>
   obtain rfl:=aF a;refine⟨(evs nb b d e).drop 16,rfl,cell 1 _ (show 1*16+16<=32 from aD) rfl,?_⟩;exact⟨[_],_,rfl,num 2 ⟨aD,aD⟩,[_,_,_,_,_,_,_,_],_,rfl,
    ⟨[_],_,rfl,num 1 ⟨aD,aD⟩,[_],_,rfl,num 0 ⟨aD,aD⟩,[_],_,rfl,st [] aD,[_],_,rfl,st [] aD,[_],_,rfl,nm,[_],_,rfl,st [] aD,[_],_,rfl,st [] aD,[_],_,rfl,num 1 ⟨aD,aD⟩,rfl⟩,
    [_],_,rfl,num d o,[_],_,rfl,num e p,[_],_,rfl,num 1 ⟨aD,aD⟩,[_,_,_,_],_,rfl,
    ⟨[_],_,rfl,num 0 ⟨aD,aD⟩,[_],_,rfl,st [48,48,48,48,48,49] aD,[_],_,rfl,num 0 ⟨aD,aD⟩,[_],_,rfl,st [] aD,rfl⟩,rfl⟩
 | i+2,a=>cases a
def zst:Value:=.agg #[.slice af 0 0,.slice af 0 0,.slice af 0 0,.slice af 0 0,.slice af 0 0]
def At.args{W nb eb a b c}(h:At W nb eb a b c)(d:Tq a)(e:Tq b)(f:Tq c):jV W (im nb eb) Og.A ((t0,af6 a b c,()):aW×s7×aj) [zst,.agg #[.slice (aa ⟨eb,0,af⟩) 2 2,.slice af 0 0]]:=by
 refine⟨[.slice af 0 0,.slice af 0 0,.slice af 0 0,.slice af 0 0,.slice af 0 0],_,rfl,?_,[.slice (aa ⟨eb,0,af⟩) 2 2,.slice af 0 0],_,rfl,?_,rfl⟩
 .exact⟨[_],_,rfl,.inl ⟨⟨af,rfl⟩,rfl⟩,[_],_,rfl,.inl ⟨⟨af,rfl⟩,rfl⟩,[_],_,rfl,.inl ⟨⟨af,rfl⟩,rfl⟩,[_],_,rfl,.inl ⟨⟨af,rfl⟩,rfl⟩,[_],_,rfl,.inl ⟨⟨af,rfl⟩,rfl⟩,rfl⟩
 .exact⟨[_],_,rfl,h.rep d e f,[_],_,rfl,.inl ⟨⟨af,rfl⟩,rfl⟩,rfl⟩
def At.im{W nb eb a c d}(h:At W nb eb a c d):∀b o,im nb eb b o->b<W.heap.size:=λb o e=>by
 rcases e with ⟨rfl,_⟩|⟨rfl,_⟩
 .exact h.nb
 .exact h.eb
def At.check{W nb eb a c d b}(h:At W nb eb a c d)(j:Tq a)(k:Tq c)(l:Tq d)(m:fB (t0,af6 a c d,())=aa (b,0,())) :
  Calls Tryz.prog 16 #[zst,.agg #[.slice (aa ⟨eb,0,af⟩) 2 2,.slice af 0 0]] W λe w'=>e=.returned (.tuple #[.bool b,.int .i64 0])/\Below W.heap.size W w':=by
 refine(CT.calls (Go.Proofs.YtgklgliokhbcnaaGreatDoor.im nb eb) W _ ((t0,af6 a c d,()):aW×s7×aj) ((b,(0:Int),()):Bool×Int×aj) h.im (Gc (λ_ _=>False) W) (h.args j k l) m).mono ?_;rintro e w' ⟨v,I',rfl,n,_,_,_,arr,o,p,r1,q,⟨r,f,s⟩,t,r2,u,⟨w,g,x⟩,i⟩;refine⟨?_,n⟩;obtain rfl:v=.tuple arr:=vk o;obtain rfl:p=_:=vk s;obtain rfl:t=_:=vk x;subst u;have i:r2=[]:=i;have f:r=[.bool b]:=f;have g:w=[.int .i64 0]:=g.1;subst i f g;obtain rfl:arr=#[.bool b,.int .i64 0]:=BL.1 q;rfl
def At.order{W nb eb g i j}(h:At W nb eb g i j)(o:Tq g)(p:Tq i)(q:Tq j)(r:ja (t0,af6 g i j,())=aa ([1,0],0,())) :
  Calls Tryz.prog 13 #[zst,.agg #[.slice (aa ⟨eb,0,af⟩) 2 2,.slice af 0 0]] W λe w'=>∃b c a,e=.returned (.tuple #[.slice (aa ⟨b,c,af⟩) 2 a,.int .i64 0])/\Below W.heap.size W w'/\2<=a/\a<=maxLen /\
   w'.cell? ⟨b,c,af⟩=aa (.int .i64 1)/\w'.cell? ⟨b,c+1,af⟩=aa (.int .i64 0)/\b<w'.heap.size:=by
 refine(CS.calls (Go.Proofs.YtgklgliokhbcnaaGreatDoor.im nb eb) W _ ((t0,af6 g i j,()):aW×s7×aj) (([1,0],(0:Int),()):List Int×Int×aj) h.im (Gc (λ_ _=>False) W) (h.args o p q) r).mono ?_;rintro e w' ⟨v,I',rfl,s,_,k,_,arr,t,u,r1,w,⟨I,d,x⟩,y,r2,z,⟨A,l,B⟩,m⟩;obtain rfl:v=.tuple arr:=vk t;obtain rfl:u=_:=vk x;obtain rfl:y=_:=vk B;subst z;have m:r2=[]:=m;have l:A=[.int .i64 0]:=l.1;subst m l;rcases d with ⟨_,d⟩|⟨b,c,a,d,C,D,f⟩
 .cases d
 obtain⟨E,_,n,F⟩:=f 0 (1:Int) rfl;obtain⟨G,_,H,r1⟩:=f 1 (0:Int) rfl;obtain rfl:E=[.int .i64 1]:=F.1;obtain rfl:G=[.int .i64 0]:=r1.1;subst d;obtain rfl:arr=#[.slice (aa ⟨b,c,af⟩) 2 a,.int .i64 0]:=BL.1 w;exact⟨b,c,a,rfl,s,C,D,(n 0 _ rfl).1,(H 0 _ rfl).1,k _ _ (n 0 _ rfl).2⟩
def sameAt{W:World}{g k a mb:Nat}(t:2<=a)(u:a<=maxLen)(w:W.cell? ⟨g,k,af⟩=aa (.int .i64 1))(m:W.cell? ⟨g,k+1,af⟩=aa (.int .i64 0))(F:g<W.heap.size)
  (y:W.cell? ⟨mb,0,af⟩=aa (.int .i64 1)) (z:W.cell? ⟨mb,1,af⟩=aa (.int .i64 0)) (r:mb<W.heap.size) :
  Calls Tryz.prog 15 #[.slice (aa ⟨g,k,af⟩) 2 a,.slice (aa ⟨mb,0,af⟩) 2 2] W λe w'=>e=.returned (.bool true)/\Below W.heap.size W w':=by
 have rep:∀(l d n:Nat) (I:Nat->Nat->Prop),(∀b o,(b=l/\(o=d\/o=d+1))->I b o)->2<=n->n<=maxLen->W.cell? ⟨l,d,af⟩=aa (.int .i64 1)->W.cell? ⟨l,d+1,af⟩=aa (.int .i64 0)->bH W I (.slice<|.int .i64) ([1,0]:List Int) [.slice (aa ⟨l,d,af⟩) 2 n]:=λl d n I s q A B C=>by
  refine .inr ⟨l,d,n,rfl,q,A,λi x f=>?_⟩
  match i,f with
  | 0,f =>
    obtain rfl:=aF f;refine⟨[.int .i64 1],rfl,λj c p=>?_,rfl,aD,aD⟩;cases j with
    | zero=>obtain rfl:=aF p;exact⟨B,s _ _ ⟨rfl,.inl rfl⟩⟩
    | succ j=>cases p
  | 1,f =>
    obtain rfl:=aF f;refine⟨[.int .i64 0],rfl,λj c p=>?_,rfl,aD,aD⟩;cases j with
    | zero=>obtain rfl:=aF p;exact⟨C,s _ _ ⟨rfl,.inr rfl⟩⟩
    | succ j=>cases p
  | i+2,f=>cases f
 have hv:iD ([1,0],[1,0],())=aa (true,()):=by
  obtain rfl:‹Lp›=Lp.JL:=Lp.one _ _;kernel_rfl
 refine(IL.calls (λb o=>(b=g/\(o=k\/o=k+1))\/(b=mb/\(o=0\/o=0+1))) W _ (([1,0],[1,0],()):List Int×List Int×aj) ((true,()):Bool×aj) (λb o D=>?_) (Gc (λ_ _=>False) W)
  ⟨[_],_,rfl,rep g k a _ (λ_ _ h=>.inl h) t u w m,[_],_,rfl,rep mb 0 2 _ (λ_ _ h=>.inr h) (bX 2) aD y z,rfl⟩ hv).mono ?_
 .rcases D with ⟨rfl,_⟩|⟨rfl,_⟩<;>assumption
 rintro e w' ⟨v,I',rfl,r,_,_,_,q,m,E⟩;obtain rfl:v=_:=vk E;have m:q=[.bool true]:=m;subst m;exact⟨rfl,r⟩
def At.below{W b nb eb c d e}(h:At W nb eb c d e)(a:Below W.heap.size W b):At b nb eb c d e :=
 ⟨(a.cell (p:=⟨nb,0,af⟩) h.nb).trans h.nm,λj v f=>(a.cell (p:=⟨eb,j,af⟩) h.eb).trans (h.ev j v f),zf h.nb a.size,zf h.eb a.size⟩
def At.set{W nb eb b c d m0 g m1}(h:At W nb eb b c d)(f:nb≠eb){i:Nat}{x u:Value}(k:(evs nb b c d)[i]?=aa u)(l:(evs nb b c d).set i x=evs nb m0 g m1):At (W.setCell ⟨eb,i,af⟩ x) nb eb m0 g m1:=by
 refine⟨?_,λj v a=>?_,by simpa using h.nb,by simpa using h.eb⟩
 .rw[World.cell?_setCell_other _ ⟨eb,i,af⟩ ⟨nb,0,af⟩ _ λq=>f (congrArg Addr.block q).symm];exact h.nm
 .rw[<-l] at a;by_cases e:i=j
  .subst e;rw[acU<|av k] at a;obtain rfl:=aF a;exact World.cell?_setCell_same _ _ _ (h.ev i u k)
  .rw[YY e] at a;rw[World.cell?_setCell_other _ ⟨eb,i,af⟩ ⟨eb,j,af⟩ _ λq=>e (congrArg Addr.off q)];exact h.ev j v a
abbrev wA(w:World):World:=((((w.alloc<|Obj.cells #[Value.string ⟨#[97]⟩] 9).alloc
 (Obj.cells #[.int .i64 1,.int .i64 0,.string ⟨#[]⟩,.string ⟨#[]⟩,.slice (aa ⟨w.heap.size,0,af⟩) 1 1,.string ⟨#[]⟩,.string ⟨#[]⟩,.int .i64 1] 45)).alloc
 (Obj.cells #[.int .i64 14,.int .i64 3,.string ⟨#[97]⟩,.string ⟨#[]⟩,.slice af 0 0,.string ⟨#[]⟩,.string ⟨#[]⟩,.int .i64 0] 45)).alloc
 (Obj.cells (evs w.heap.size 4 2 3).toArray 50)).alloc
 (Obj.cells #[.slice (aa ⟨w.heap.size+1+1+1,0,af⟩) 2 2,.slice af 0 0] 32)
def DB(w:World)(o:Obj){k:Nat}(h:k=w.heap.size):(w.alloc o).heap[k]?=aa o:=by subst h;show(w.heap.push o)[w.heap.size]?=_;simp
def af7(w:World):At (wA w) w.heap.size (w.heap.size+1+1+1) 4 2 3 where
 nm:=by
  have:(wA w).heap[w.heap.size]?=aa (Obj.cells #[Value.string ⟨#[97]⟩] 9):=by
   rw[Below.heap_alloc _ _ _ cJ,Below.heap_alloc _ _ _ cJ,Below.heap_alloc _ _ _ cJ,Below.heap_alloc _ _ _ aS,DB _ _ rfl]
  simp only[World.cell?,this];rfl
 ev:=λj v a=>by
  have:(wA w).heap[w.heap.size+1+1+1]?=aa (Obj.cells (evs w.heap.size 4 2 3).toArray 50):=by
   rw[Below.heap_alloc _ _ _ aS,DB _ _ aS]
  simp only[World.cell?,this];simpa using a
 nb:=cJ
 eb:=aS
def WD(w:World):Below w.heap.size w (wA w) :=
 (((((Below.refl _ w).alloc (bX _) _).alloc aS _).alloc cJ _).alloc cJ _).alloc cJ _
def alk(w:World)(j:Nat):(wA w).cell? ⟨w.heap.size+1+1+1+1,j,af⟩=(#[.slice (aa ⟨w.heap.size+1+1+1,0,af⟩) 2 2,.slice af 0 0]:Array Value)[j]?:=by
 have:(wA w).heap[w.heap.size+1+1+1+1]?=aa (Obj.cells #[.slice (aa ⟨w.heap.size+1+1+1,0,af⟩) 2 2,.slice af 0 0] 32):=DB _ _ aS;simp only[World.cell?,this];rfl
def alm(w:World)(j:Nat):(wA w).frozen? ⟨w.heap.size+1+1+1,j,af⟩=false:=by
 have:(wA w).heap[w.heap.size+1+1+1]?=aa (Obj.cells (evs w.heap.size 4 2 3).toArray 50):=by
  rw[Below.heap_alloc _ _ _ aS,DB _ _ aS]
 simp only[World.frozen?,this];simp
def mO{w:World}{p q:Addr}{x y z:Value}(c:w.cell? p=aa x)(b:w.cell? q=aa y)(a:x≠y):(w.setCell p z).cell? q=aa y:=by
 rw[World.cell?_setCell_other _ p q _ λe=>a (by subst e;exact aF (c.symm.trans b))];exact b
set_option maxRecDepth 100000 in
set_option maxHeartbeats 6400000 in
def WE(w:World):Calls Tryz.prog 7 #[] w λe w'=>e=.returned (.bool true)/\Below w.heap.size w w':=by
 have D:Tq 4:=⟨aD,aD⟩;have E:Tq 2:=⟨aD,aD⟩;have F:Tq 3:=⟨aD,aD⟩;have m0:Tq 5:=⟨aD,aD⟩;have m1:Tq 6:=⟨aD,aD⟩;have K:Tq 7:=⟨aD,aD⟩;have h:w.heap.size≠w.heap.size+1+1+1:=ag
 go_enter Tryz.func7,Tryz.ntmps7
 go_wp2_with (first
  | (go_at_call 15
     refine(sameAt (mb:=t.heap.size) L M ((World.cell?_alloc_past _ _ _ m).trans N) ((World.cell?_alloc_past _ _ _ m).trans u) cJ aS aS aS).mono ?_;rintro e Z ⟨rfl,v⟩)
  | (go_at_call 16
     refine(x.check m0 m1 K ald).mono ?_;rintro e t ⟨rfl,c⟩;have m:n<t.heap.size:=zf (by simpa using k) c.size;have N:t.cell? ⟨n,lo,af⟩=aa (.int .i64 1):=(c.cell (p:=⟨n,lo,af⟩)<|by simpa using k).trans (mO d (mO f (mO o10 y aS) aS) aS);have u:t.cell? ⟨n,lo+1,af⟩=aa (.int .i64 0):=(c.cell (p:=⟨n,lo+1,af⟩)<|by simpa using k).trans (mO d (mO f (mO o10 z aS) aS) aS))
  | (go_at_call 13
     refine(l.order D E F alg).mono ?_;rintro e a ⟨n,lo,cap,rfl,g,L,M,y,z,k⟩;have o:=l.below g;have r2:∀j,a.cell? ⟨w.heap.size+1+1+1+1,j,af⟩=_:=λj=>(g.cell (p:=⟨w.heap.size+1+1+1+1,j,af⟩) A).trans (r1 j);have B:∀j,a.frozen? ⟨w.heap.size+1+1+1,j,af⟩=false:=λj=>(g.frozen (p:=⟨w.heap.size+1+1+1,j,af⟩) l.eb).trans (O j);have P:a.cell? ⟨w.heap.size+1+1+1+1,0,af⟩=aa (.slice (aa ⟨w.heap.size+1+1+1,0,af⟩) 2 2):=r2 0;have Q:a.cell? ⟨w.heap.size+1+1+1+1,1,af⟩=aa (.slice af 0 0):=r2 1;have o10:a.cell? ⟨w.heap.size+1+1+1,10,af⟩=aa (.int .i64 4):=o.ev 10 _ rfl;have R:=B 10;have S:(a.setCell ⟨w.heap.size+1+1+1,10,af⟩<|.int .i64 5).cell? ⟨w.heap.size+1+1+1+1,0,af⟩=aa (.slice (aa ⟨w.heap.size+1+1+1,0,af⟩) 2 2):=mO o10 P aS;have T:(a.setCell ⟨w.heap.size+1+1+1,10,af⟩<|.int .i64 5).cell? ⟨w.heap.size+1+1+1+1,1,af⟩=aa (.slice af 0 0):=mO o10 Q aS;have q:At (a.setCell ⟨w.heap.size+1+1+1,10,af⟩<|.int .i64 5) w.heap.size (w.heap.size+1+1+1) 5 2 3:=o.set h (i:=10) rfl rfl;have f:(a.setCell ⟨w.heap.size+1+1+1,10,af⟩<|.int .i64 5).cell? ⟨w.heap.size+1+1+1,25,af⟩=aa (.int .i64 2):=q.ev 25 _ rfl;have U:(a.setCell ⟨w.heap.size+1+1+1,10,af⟩<|.int .i64 5).frozen? ⟨w.heap.size+1+1+1,25,af⟩=false:=by simp[B]
     have V:((a.setCell ⟨w.heap.size+1+1+1,10,af⟩<|.int .i64 5).setCell ⟨w.heap.size+1+1+1,25,af⟩<|.int .i64 6).cell? ⟨w.heap.size+1+1+1+1,0,af⟩=aa (.slice (aa ⟨w.heap.size+1+1+1,0,af⟩) 2 2):=mO f S aS;have W:((a.setCell ⟨w.heap.size+1+1+1,10,af⟩<|.int .i64 5).setCell ⟨w.heap.size+1+1+1,25,af⟩<|.int .i64 6).cell? ⟨w.heap.size+1+1+1+1,1,af⟩=aa (.slice af 0 0):=mO f T aS;have r:At ((a.setCell ⟨w.heap.size+1+1+1,10,af⟩<|.int .i64 5).setCell ⟨w.heap.size+1+1+1,25,af⟩<|.int .i64 6) w.heap.size (w.heap.size+1+1+1) 5 6 3:=q.set h (i:=25) rfl rfl;have d:((a.setCell ⟨w.heap.size+1+1+1,10,af⟩<|.int .i64 5).setCell ⟨w.heap.size+1+1+1,25,af⟩<|.int .i64 6).cell? ⟨w.heap.size+1+1+1,26,af⟩=aa (.int .i64 3):=r.ev 26 _ rfl;have X:((a.setCell ⟨w.heap.size+1+1+1,10,af⟩<|.int .i64 5).setCell ⟨w.heap.size+1+1+1,25,af⟩<|.int .i64 6).frozen? ⟨w.heap.size+1+1+1,26,af⟩=false:=by simp[B]
     have x3:(((a.setCell ⟨w.heap.size+1+1+1,10,af⟩<|.int .i64 5).setCell ⟨w.heap.size+1+1+1,25,af⟩<|.int .i64 6).setCell ⟨w.heap.size+1+1+1,26,af⟩<|.int .i64 7).cell? ⟨w.heap.size+1+1+1+1,0,af⟩=aa (.slice (aa ⟨w.heap.size+1+1+1,0,af⟩) 2 2):=mO d V aS;have y3:(((a.setCell ⟨w.heap.size+1+1+1,10,af⟩<|.int .i64 5).setCell ⟨w.heap.size+1+1+1,25,af⟩<|.int .i64 6).setCell ⟨w.heap.size+1+1+1,26,af⟩<|.int .i64 7).cell? ⟨w.heap.size+1+1+1+1,1,af⟩=aa (.slice af 0 0):=mO d W aS;have x:At (((a.setCell ⟨w.heap.size+1+1+1,10,af⟩<|.int .i64 5).setCell ⟨w.heap.size+1+1+1,25,af⟩<|.int .i64 6).setCell ⟨w.heap.size+1+1+1,26,af⟩<|.int .i64 7) w.heap.size (w.heap.size+1+1+1) 5 6 7:=r.set h (i:=26) rfl rfl)
  | (go_at_call 16
     refine((af7 w).check D E F alf).mono ?_;rintro e C ⟨rfl,b⟩;have l:=(af7 w).below b;have s:w.heap.size+1+1+1+1<(wA w).heap.size:=aS;have A:w.heap.size+1+1+1+1<C.heap.size:=zf s b.size;have r1:∀j,C.cell? ⟨w.heap.size+1+1+1+1,j,af⟩=_:=λj=>(b.cell (p:=⟨w.heap.size+1+1+1+1,j,af⟩) s).trans (alk w j);have O:∀j,C.frozen? ⟨w.heap.size+1+1+1,j,af⟩=false:=λj=>(b.frozen (p:=⟨w.heap.size+1+1+1,j,af⟩) (af7 w).eb).trans (alm w j)))
 go_ret
 refine⟨rfl,?_⟩;have G:=(WD w).trans (b.mono (WD w).size);have Y:=G.trans (g.mono G.size);have H:=((Y.setCell (p:=⟨w.heap.size+1+1+1,10,af⟩) cJ<|.int .i64 5).setCell (p:=⟨w.heap.size+1+1+1,25,af⟩) cJ<|.int .i64 6).setCell (p:=⟨w.heap.size+1+1+1,26,af⟩) cJ (.int .i64 7);have I:=H.trans (c.mono H.size);have J:=I.alloc I.size (Obj.cells #[.int .i64 1,.int .i64 0] 3);exact J.trans (v.mono J.size)
def PF:Holds Tryz.prog dc 7 PE where
 body:=by
  obtain⟨c,a⟩:=Lc.1 (show(Tryz.f7:Func).body.isSome=true by kernel_rfl);exact⟨Tryz.f7,c,Tryz.func7,by kernel_rfl,a⟩
 calls:=λI w d x y g j i hs=>by
  obtain rfl:d=#[]:=BL.1 i;obtain rfl:y=((true,()):Bool×aj):=(aF hs).symm;refine(WE w).mono ?_;rintro e w' ⟨rfl,f⟩;exact⟨.bool true,I,rfl,f,λ_ _ h=>h,λb o h=>zf (g b o h) f.size,λb o h k=>absurd h k,[.bool true],rfl,rfl⟩
def DR:Holds Tryz.prog dc 4 DQ:=(alj.Tn PF |>.bF 4 (.pair (.slice<|.pair (.int .i64)<|.pair (.int .i64)<|.pair .str<|.pair .str<|.pair (.slice .str)<|.pair .str<|.pair .str<|.pair (.int .i64) .unit)<|.pair (.int .u8) .unit) (.pair .bool .unit) hL).hxo
end Go.Proofs.YtgklgliokhbcnaaGreatDoor
