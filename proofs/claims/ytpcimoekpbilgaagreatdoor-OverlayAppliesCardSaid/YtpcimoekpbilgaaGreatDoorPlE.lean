/- Plain laws of what the functions compute: part 5. -/
import Derived.Test.YtpcimoekpbilgaaGreatDoorPlD
/- Diffs laid on trees: each path by itself: what a path leads to hangs on what it led to, and on the entries, and on no other path. -/
namespace Go.Ge
set_option linter.unusedVariables false
set_option linter.unusedSimpArgs false

def atF (t:List Nd) (q:List UInt8):Option Nd:=t.find? fun x=>decide (x.1=q)

theorem find_at (t:List Nd) (q:List UInt8):findF t q=match atF t q with
 | some x=>(x,(true,()))
 | none=>(zeroN,(false,())):=rfl
theorem at_mem {t:List Nd} {q:List UInt8} {x:Nd} (h:atF t q=some x):x ∈ t∧x.1=q:=by
 unfold atF at h
 exact ⟨List.mem_of_find?_eq_some h,by have:=List.find?_some h;simpa using this⟩
theorem at_iff {t:List Nd} (ho:Ord t) {q:List UInt8} {x:Nd}:atF t q=some x ↔ x ∈ t∧x.1=q:=by
 constructor
 ·exact at_mem
 ·rintro ⟨h1,h2⟩
  have:=find_some' ho h1 h2
  rw [find_at] at this
  cases ha:atF t q with
  | none=>rw [ha] at this;cases (Prod.mk.inj (Prod.mk.inj this).2).1
  | some y=>rw [ha] at this;rw [(Prod.mk.inj this).1]
theorem opt_ext {a b:Option Nd} (h:∀ x,a=some x ↔ b=some x):a=b:=by
  cases a with
  | none =>
    cases b with
    | none=>rfl
    | some y=>exact absurd ((h y).2 rfl) (by simp)
  | some x=>exact ((h x).1 rfl).symm

theorem pairs_ext:∀ {l m:List Nd},(l.Pairwise fun x y=>cmpL (key x) (key y) < 0)→(m.Pairwise fun x y=>cmpL (key x) (key y) < 0)→(∀ c,c ∈ l ↔ c ∈ m)→l=m:=by
  intro l
  induction l with
  | nil =>
    intro m _ _ h
    cases m with
    | nil=>rfl
    | cons d m=>exact absurd ((h d).2 (by simp)) (by simp)
  | cons c l ih =>
    intro m hl hm h
    cases m with
    | nil=>exact absurd ((h c).1 (by simp)) (by simp)
    | cons d m =>
      rw [List.pairwise_cons] at hl hm
      have irr:∀ x:Nd,¬ cmpL (key x) (key x) < 0:=fun x=>by rw [cmpL_self];omega
      have hcd:c=d:=by
        have h1:c=d∨c ∈ m:=by simpa using (h c).1 (by simp)
        have h2:d=c∨d ∈ l:=by simpa using (h d).2 (by simp)
        rcases h1 with e | h1
        · exact e
        · rcases h2 with e | h2
          · exact e.symm
          · exact absurd (cmpL_trans (hl.1 d h2) (hm.1 c h1)) (irr c)
      subst hcd
      rw [ih hl.2 hm.2 fun q=>?_]
      constructor
      · intro hq
        rcases List.mem_cons.1 ((h q).1 (List.mem_cons_of_mem _ hq)) with e | e
        · subst e;exact absurd (hl.1 q hq) (irr q)
        · exact e
      · intro hq
        rcases List.mem_cons.1 ((h q).2 (List.mem_cons_of_mem _ hq)) with e | e
        · subst e;exact absurd (hm.1 q hq) (irr q)
        · exact e
theorem at_ext {s t:List Nd} (hs:Ord s) (ht:Ord t) (h:∀ q,atF s q=atF t q):s=t :=
 pairs_ext (ord_pairs.1 hs) (ord_pairs.1 ht) fun c=>by
  have a:=at_iff hs (q:=c.1) (x:=c)
  have b:=at_iff ht (q:=c.1) (x:=c)
  rw [h c.1] at a
  constructor
  ·intro hc;exact (b.1 (a.2 ⟨hc,rfl⟩)).1
  ·intro hc;exact (a.1 (b.2 ⟨hc,rfl⟩)).1

theorem under_dir {l:List Nd} (hv:Valid l) {p:List UInt8} (hp:p ≠ []):∀ (m:Nat) (x:Nd),x ∈ l→(parts x.1).length≤m→underL (parts x.1) (parts p)=true→∃ y ∈ l,y.1=p∧y.2.1=2:=by
  intro m
  induction m with
  | zero =>
    intro x hx hm hu
    unfold underL at hu
    have:=(of_decide_eq_true hu).1
    omega
  | succ m ih =>
    intro x hx hm hu
    by_cases hex:∃ y ∈ l,y.1=p
    · by_cases h0 : (splitF x.1).1 = []
      · exfalso
        have hu2:=hu
        unfold underL at hu2
        have h1:=(of_decide_eq_true hu2).1
        have hmay:=hv.may x hx
        unfold mayF okPath at hmay
        simp only [Bool.and_eq_true,decide_eq_true_eq] at hmay
        have hall:=hmay.1.1.1.1.1.1.1.2
        have hone:(parts x.1).length≤1:=by
          rcases split_cases x.1 with ⟨a,_⟩ | ⟨a,b,e1,e2,e⟩
          · unfold parts
            split
            · simp
            · rw [splitS_plain _ a];simp
          · rw [e] at h0
            have h0:a=[]:=h0
            subst h0
            have:isNm []=true:=List.all_eq_true.1 hall [] (by
              unfold parts
              rw [e1,if_neg (by simp)]
              show [] ∈ splitS ([] ++ 47 :: b)
              rw [splitS_app [] (by simp)]
              simp)
            exact absurd this (by decide)
        have hpn:parts p=[]:=List.length_eq_zero_iff.1 (by omega)
        have:=joinS_parts p
        rw [hpn] at this
        exact hp this.symm
      · rcases hv.up x hx with e | ⟨y,hy,hy1,hy2⟩
        · exact absurd e h0
        · have hk:=parent_key h0
          rw [← hy1] at hk
          unfold underL at hu
          obtain ⟨h1,h2⟩:=of_decide_eq_true hu
          rw [hk] at h1 h2
          have hle:(parts p).length≤(parts y.1).length:=by simp at h1;omega
          rw [List.take_append_of_le_length hle] at h2
          rcases Nat.lt_or_ge (parts p).length (parts y.1).length with g | g
          · exact ih y hy (by rw [hk] at hm;simp at hm;omega) (by unfold underL;exact decide_eq_true ⟨g,h2⟩)
          · have he:parts p=parts y.1:=by rw [← h2,List.take_of_length_le (by omega)]
            exact ⟨y,hy,by rw [← joinS_parts y.1,← he,joinS_parts],hy2⟩
    · have:=none_under hv hp (fun y hy e=>hex ⟨y,hy,e⟩) _ x hx (Nat.le_refl _)
      rw [this] at hu;cases hu

theorem put_at' {t:List Nd} {n:Nd} (h:(t14_putF t n).2=0) (q:List UInt8) :
    atF (t14_putF t n).1 q=if q=n.1 then some n else if underL (parts q) (parts n.1)=true∧n.2.1 ≠ 2 then none else atF t q:=by
  rcases putF_cases t n with ⟨_,h2⟩ | ⟨h1,h2,h3,r,h4,h5,h6⟩
  · exact absurd h h2
  have hvalid:=put_valid h1 h2 h3 h4 h5
  have hne:=mayF_ne h2
  rw [h6]
  dsimp only
  refine opt_ext fun x=>?_
  rw [at_iff hvalid.ord,mem_insF]
  obtain ⟨hsub,_⟩:=h4.sub
  by_cases hq:q=n.1
  · rw [if_pos hq]
    constructor
    · rintro ⟨e | hx,hx1⟩
      · rw [e]
      · exact absurd (hx1.trans hq) (hsub x hx).2
    · intro e
      obtain rfl:=Option.some.inj e
      exact ⟨.inl rfl,hq.symm⟩
  · rw [if_neg hq]
    have hin:(x=n∨x ∈ r)∧x.1=q ↔ x ∈ r∧x.1=q:=by
      constructor
      · rintro ⟨e | hx,hx1⟩
        · subst e;exact absurd hx1.symm hq
        · exact ⟨hx,hx1⟩
      · rintro ⟨hx,hx1⟩;exact ⟨.inr hx,hx1⟩
    rw [hin]
    rcases h4 with ⟨⟨⟨d,hd,hd1,hd2⟩,hn2⟩,rfl⟩ | ⟨hno,rfl⟩
    · rw [if_neg (fun z=>z.2 hn2),at_iff h1.ord,List.mem_filter]
      constructor
      · rintro ⟨⟨a,_⟩,b⟩;exact ⟨a,b⟩
      · rintro ⟨a,b⟩;exact ⟨⟨a,by simp only [Bool.not_eq_true',decide_eq_false_iff_not];rw [b];exact hq⟩,b⟩
    · unfold restF
      rw [List.mem_filter]
      by_cases hu:underL (parts q) (parts n.1)=true
      · by_cases hk : n.2.1 = 2
        · rw [if_neg (fun z=>z.2 hk),at_iff h1.ord]
          constructor
          · rintro ⟨⟨a,b⟩,c⟩;exact ⟨a,c⟩
          · rintro ⟨a,c⟩
            exfalso
            have:=under_dir h1 hne _ x a (Nat.le_refl _) (by rw [c];exact hu)
            exact hno ⟨this,hk⟩
        · rw [if_pos ⟨hu,hk⟩]
          constructor
          · rintro ⟨⟨a,b⟩,c⟩
            unfold gone at b
            rw [c,hu] at b
            simp at b
          · intro e;cases e
      · rw [if_neg (fun z=>hu z.1),at_iff h1.ord]
        constructor
        · rintro ⟨⟨a,b⟩,c⟩;exact ⟨a,c⟩
        · rintro ⟨a,c⟩
          refine ⟨⟨a,?_⟩,c⟩
          unfold gone
          rw [c,decide_eq_false hq,show underL (parts q) (parts n.1)=false by simpa using hu];rfl

def delt (q:List UInt8) (s:Option Nd):Option Nd:=match s with
 | some x=>if x.2.1=2 then some x else some (dirM 493 q)
 | none=>some (dirM 493 q)

theorem find_dir {t:List Nd} (p:List UInt8):((findF t p).2.1=true∧(findF t p).1.2.1=2) ↔ ∃ x,atF t p=some x∧x.2.1=2:=by
 rw [find_at]
 cases atF t p with
 | none=>simp
 | some x=>simp

theorem preP_inj {ns:List (List UInt8)} (h:NmOk ns) {i j:Nat} (hi:i < ns.length) (hj:j < ns.length) (e:preP ns i=preP ns j):i=j:=by
 have:=congrArg (fun p=>(parts p).length) e
 simp only [preP_parts h,List.length_take] at this
 omega

theorem dirs_at {ns:List (List UInt8)} (h:NmOk ns) (n:Nat) (hn:n≤ns.length) (q:List UInt8):∀ (d i:Nat) (t:List Nd),i + d=n→Valid t →
    (dirsF ((ns.take n).drop i) (joinS (ns.take i)) t).2=0 →
    ((∃ j,i≤j∧j < n∧q=preP ns j)→atF (dirsF ((ns.take n).drop i) (joinS (ns.take i)) t).1 q=delt q (atF t q)) ∧
    ((¬ ∃ j,i≤j∧j < n∧q=preP ns j)→atF (dirsF ((ns.take n).drop i) (joinS (ns.take i)) t).1 q=atF t q):=by
  intro d
  induction d with
  | zero =>
    intro i t hi hv _
    obtain rfl:i=n:=by omega
    rw [List.drop_of_length_le (by rw [List.length_take];omega)]
    exact ⟨fun ⟨j,a,b,_⟩=>absurd a (by omega),fun _=>rfl⟩
  | succ d ih =>
    intro i t hi hv h0
    have hx:ns[i]? = some ns[i]:=List.getElem?_eq_getElem (by omega)
    have hdrop:(ns.take n).drop i=ns[i] :: (ns.take n).drop (i + 1):=by
      rw [List.drop_eq_getElem_cons (by rw [List.length_take];omega),List.getElem_take]
    have hj:=joinP_take h hx
    have hn1:preP ns i=joinS (ns.take (i + 1)):=rfl
    rw [hdrop] at h0 ⊢
    unfold dirsF at h0 ⊢
    rw [hj] at h0 ⊢
    have cases':(∃ j,i≤j∧j < n∧q=preP ns j) ↔ (q=preP ns i∨∃ j,i + 1≤j∧j < n∧q=preP ns j):=by
      constructor
      · rintro ⟨j,a,b,c⟩
        by_cases e:j=i
        · subst e;exact .inl c
        · exact .inr ⟨j,by omega,b,c⟩
      · rintro (c | ⟨j,a,b,c⟩)
        · exact ⟨i,Nat.le_refl _,by omega,c⟩
        · exact ⟨j,by omega,b,c⟩
    have apart:q=preP ns i→¬ ∃ j,i + 1≤j∧j < n∧q=preP ns j:=by
      rintro e ⟨j,a,b,c⟩
      have:=preP_inj h (by omega) (by omega) (e.symm.trans c)
      omega
    by_cases hc:(findF t (preP ns i)).2.1=true∧(findF t (preP ns i)).1.2.1=2
    · rw [if_pos hc] at h0 ⊢
      rw [hn1] at h0 ⊢
      obtain ⟨k1,k2⟩:=ih (i + 1) t (by omega) hv h0
      rw [cases']
      obtain ⟨x,x1,x2⟩:=(find_dir _).1 hc
      constructor
      · rintro (e | e)
        · rw [k2 (apart e),e,x1]
          unfold delt
          simp only [if_pos x2]
        · exact k1 e
      · intro e
        exact k2 fun z=>e (.inr z)
    · rw [if_neg hc] at h0 ⊢
      by_cases hp:(t14_putF t (dirM 493 (preP ns i))).2=0
      · rw [if_pos hp] at h0 ⊢
        rw [hn1] at h0 ⊢
        obtain ⟨k1,k2⟩:=ih (i + 1) _ (by omega) (putF_valid hp) h0
        have hput:=put_at' hp q
        rw [← hn1] at k1 k2
        rw [cases']
        have hk2:¬ (dirM 493 (preP ns i)).2.1 ≠ 2:=fun z=>z rfl
        rw [if_neg (fun z:underL (parts q) (parts (dirM 493 (preP ns i)).1)=true∧(dirM 493 (preP ns i)).2.1 ≠ 2=>hk2 z.2)] at hput
        constructor
        · rintro (e | e)
          · rw [if_pos (show q=(dirM 493 (preP ns i)).1 from e)] at hput
            rw [← hn1,k2 (apart e),hput]
            unfold delt
            rw [find_dir] at hc
            cases ha:atF t q with
            | none=>dsimp only;rw [e]
            | some x =>
              dsimp only
              rw [if_neg (fun z=>hc ⟨x,by rw [← e];exact ha,z⟩),e]
          · rw [if_neg (fun z:q=(dirM 493 (preP ns i)).1=>apart z e)] at hput
            rw [← hn1,k1 e,hput]
        · intro e
          rw [if_neg (fun z:q=(dirM 493 (preP ns i)).1=>e (.inl z))] at hput
          rw [← hn1,k2 fun z=>e (.inr z),hput]
      · rw [if_neg hp] at h0
        exact absurd h0 hp

def effN (ns:List (List UInt8)) (n:Nd) (q:List UInt8) (s:Option Nd):Option Nd :=
 if q=n.1 then some n else if underL (parts q) ns=true∧n.2.1 ≠ 2 then none else if underL ns (parts q)=true∧q ≠ [] then delt q s else s

theorem pre_under {ns:List (List UInt8)} (h:NmOk ns) (q:List UInt8):(∃ j,0≤j∧j < ns.length - 1∧q=preP ns j) ↔ (underL ns (parts q)=true∧q ≠ []):=by
 constructor
 ·rintro ⟨j,_,hj,rfl⟩
  rw [preP_parts h]
  constructor
  ·unfold underL
   refine decide_eq_true ⟨?_,?_⟩
   ·rw [List.length_take];omega
   ·rw [List.length_take,Nat.min_eq_left (by omega)]
  ·intro e
   have:=congrArg (fun p=>(parts p).length) e
   simp only [preP_parts h,List.length_take,show (parts []).length=0 from rfl] at this
   omega
 ·rintro ⟨hu,hq⟩
  unfold underL at hu
  obtain ⟨h1,h2⟩:=of_decide_eq_true hu
  have hpos:0 < (parts q).length:=by
   apply Nat.pos_of_ne_zero
   intro e
   have:=joinS_parts q
   rw [List.length_eq_zero_iff.1 e] at this
   exact hq this.symm
  refine ⟨(parts q).length - 1,Nat.zero_le _,by omega,?_⟩
  unfold preP
  rw [show (parts q).length - 1 + 1=(parts q).length by omega,h2,joinS_parts]

theorem node_at {ns:List (List UInt8)} (h:NmOk ns) {t:List Nd} (hv:Valid t) {n:Nd} (hn:n.1=joinS ns) (h0:(nodeF ns t n).2=0) (q:List UInt8):atF (nodeF ns t n).1 q=effN ns n q (atF t q):=by
  have hlt:ns.take (ns.length - 1)=ns.dropLast:=List.dropLast_eq_take.symm
  have ht0:joinS (ns.take 0)=[]:=by simp [joinS]
  unfold nodeF at h0 ⊢
  by_cases hd:(dirsF ns.dropLast [] t).2=0
  · rw [if_pos hd] at h0 ⊢
    have hda:=dirs_at h (ns.length - 1) (by omega) q (ns.length - 1) 0 t (by omega) hv (by rw [List.drop_zero,hlt,ht0];exact hd)
    rw [List.drop_zero,hlt,ht0,pre_under h] at hda
    rw [put_at' h0 q,hn,parts_joinS ns h]
    unfold effN
    rw [hn]
    by_cases h1:q=joinS ns
    · rw [if_pos h1,if_pos h1]
    · rw [if_neg h1,if_neg h1]
      by_cases h2:underL (parts q) ns=true∧n.2.1 ≠ 2
      · rw [if_pos h2,if_pos h2]
      · rw [if_neg h2,if_neg h2]
        by_cases h3:underL ns (parts q)=true∧q ≠ []
        · rw [if_pos h3,hda.1 h3]
        · rw [if_neg h3,hda.2 h3]
  · rw [if_neg hd] at h0
    exact absurd h0 hd

def effP (q:List UInt8) (s:Option Nd) (p:Pt):Option Nd:=if (whatN p).1=0∧(whatN p).2.1 ≠ [] then effN (whatN p).2.1 (nodeOf p (joinS (whatN p).2.1)) q s else s
def clrB (q:List UInt8) (p:Pt):Bool:=(decide ((whatN p).1=1) && (decide (q=joinS (whatN p).2.1) || underL (parts q) (whatN p).2.1)) || (decide ((whatN p).1=2) && underL (parts q) (whatN p).2.1)
def clrQ (q:List UInt8) (ps:List Pt) (s:Option Nd):Option Nd:=if ps.any (clrB q)=true then none else s

theorem run_at:∀ (ps:List Pt) (t:List Nd),Valid t→(runF ps t).2=0→∀ q,atF (runF ps t).1 q=ps.foldl (effP q) (atF t q):=by
  intro ps
  induction ps with
  | nil=>intro t _ _ q;rfl
  | cons p r ih =>
    intro t hv h0 q
    unfold runF at h0 ⊢
    by_cases hp:(putsF t p).2=0
    · rw [if_pos hp] at h0 ⊢
      rw [ih _ (putsF_valid hv hp) h0 q,List.foldl_cons]
      congr 1
      unfold putsF effP at *
      by_cases hc:(whatN p).1=0∧(whatN p).2.1 ≠ []
      · rw [if_pos hc] at hp ⊢
        rw [if_pos hc]
        exact node_at (whatN_sh p).1 hv rfl hp q
      · rw [if_neg hc,if_neg hc]
    · rw [if_neg hp] at h0
      exact absurd h0 hp

theorem clr_at {t:List Nd} (hv:Valid t) (p:Pt) (q:List UInt8):atF (clrT t p) q=if clrB q p=true then none else atF t q:=by
 have hvt:=clrT_valid hv p
 have hsh:=whatN_sh p
 have hpp:parts (joinS (whatN p).2.1)=(whatN p).2.1:=parts_joinS _ hsh.1
 refine opt_ext fun x=>?_
 rw [at_iff hvt.ord]
 have key:∀ P:Nd→Bool,(∀ x,x.1=q→P x = !clrB q p)→((x ∈ t.filter P∧x.1=q) ↔ (if clrB q p=true then none else atF t q)=some x):=by
  intro P hP
  rw [List.mem_filter]
  by_cases hb:clrB q p=true
  ·rw [if_pos hb]
   constructor
   ·rintro ⟨⟨_,a⟩,b⟩
    rw [hP x b,hb] at a;cases a
   ·intro e;cases e
  ·rw [if_neg hb,at_iff hv.ord]
   constructor
   ·rintro ⟨⟨a,_⟩,b⟩;exact ⟨a,b⟩
   ·rintro ⟨a,b⟩;exact ⟨⟨a,by rw [hP x b];simpa using hb⟩,b⟩
 unfold clrT
 by_cases h1:(whatN p).1=1
 ·rw [if_pos h1]
  refine key _ fun y hy=>?_
  unfold gone clrB
  rw [hy,hpp,h1];simp
 ·rw [if_neg h1]
  by_cases h2:(whatN p).1=2
  ·rw [if_pos h2]
   refine key _ fun y hy=>?_
   unfold clrB
   rw [hy,hpp,h2];simp
  ·rw [if_neg h2]
   have hb:clrB q p=false:=by unfold clrB;rw [decide_eq_false h1,decide_eq_false h2];rfl
   rw [if_neg (by rw [hb];decide),at_iff hv.ord]

theorem clears_at:∀ (ps:List Pt) (t:List Nd),Valid t→∀ q,atF (ps.foldl clrT t) q=clrQ q ps (atF t q):=by
  intro ps
  induction ps with
  | nil=>intro t _ q;rfl
  | cons p r ih =>
    intro t hv q
    rw [List.foldl_cons,ih _ (clrT_valid hv p) q,clr_at hv p q]
    unfold clrQ
    rw [List.any_cons]
    cases clrB q p with
    | false=>rfl
    | true =>
      rw [if_pos rfl]
      simp

theorem lay_at {l:List Nd} (hv:Valid l) {ps:List Pt} (ha:allOk ps=true) (h0:(layF l ps).2=0):Valid (layF l ps).1∧∀ q,atF (layF l ps).1 q=ps.foldl (effP q) (clrQ q ps (atF l q)):=by
 have hl:layF l ps=runF ps (ps.foldl clrT l):=by unfold layF;rw [if_pos hv,if_pos ha]
 rw [hl] at h0 ⊢
 have hf:=folds_valid ps l hv
 refine ⟨?_,fun q=>?_⟩
 ·rcases runF_valid ps _ hf with ⟨_,h⟩ | ⟨h,_⟩
  ·exact h
  ·exact absurd h0 h
 ·rw [run_at ps _ hf h0 q,clears_at ps l hv q]
end Go.Ge

/- The law OverlayNames: what a diff names is there as it says: in plain words. -/
namespace Go.Ge
set_option linter.unusedVariables false
set_option linter.unusedSimpArgs false

theorem lay_errs {l:List Nd} (hv:Valid l) (ps:List Pt):((layF l ps).2=0∧allOk ps=true)∨((layF l ps).2 ≠ 0∧(layF l ps).1=[]∧((layF l ps).2=10∨(layF l ps).2=5)):=by
 by_cases ha:allOk ps=true
 ·have hl:layF l ps=runF ps (ps.foldl clrT l):=by unfold layF;rw [if_pos hv,if_pos ha]
  rw [hl]
  have hf:=folds_valid ps l hv
  rcases runF_valid ps _ hf with ⟨a1,a2⟩ | ⟨a1,a2⟩
  ·exact .inl ⟨a1,ha⟩
  ·rcases run_room ps _ ha hf with b | b
   ·exact absurd b a1
   ·exact .inr ⟨a1,a2,.inr b⟩
 ·have hl:layF l ps=([],10):=by unfold layF;rw [if_pos hv,if_neg ha]
  rw [hl]
  exact .inr ⟨by decide,rfl,.inl rfl⟩

end Go.Ge

/- The law OverlayTwice: laid twice it is as laid once: in plain words. -/
namespace Go.Ge
set_option linter.unusedVariables false
set_option linter.unusedSimpArgs false

def Simple (q:List UInt8) (f:Option Nd→Option Nd):Prop:=(∃ c,∀ s,f s=c)∨(∀ s,f s=delt q s)∨(∀ s,f s=s)

theorem delt_delt (q:List UInt8) (s:Option Nd):delt q (delt q s)=delt q s:=by
  cases s with
  | none=>rfl
  | some x =>
    show delt q (if x.2.1=2 then some x else some (dirM 493 q))=if x.2.1=2 then some x else some (dirM 493 q)
    by_cases h:x.2.1=2
    · rw [if_pos h]
      show (if x.2.1=2 then some x else some (dirM 493 q))=_
      rw [if_pos h]
    · rw [if_neg h];rfl
theorem Simple.comp {q:List UInt8} {f g:Option Nd→Option Nd} (hf:Simple q f) (hg:Simple q g):Simple q (fun s=>f (g s)):=by
 rcases hf with ⟨c,hc⟩ | hf | hf
 ·exact .inl ⟨c,fun s=>hc _⟩
 ·rcases hg with ⟨c,hc⟩ | hg | hg
  ·exact .inl ⟨delt q c,fun s=>by show f (g s)=_;rw [hf,hc]⟩
  ·exact .inr (.inl fun s=>by show f (g s)=_;rw [hf,hg,delt_delt])
  ·exact .inr (.inl fun s=>by show f (g s)=_;rw [hf,hg])
 ·rcases hg with ⟨c,hc⟩ | hg | hg
  ·exact .inl ⟨c,fun s=>by show f (g s)=_;rw [hf,hc]⟩
  ·exact .inr (.inl fun s=>by show f (g s)=_;rw [hf,hg])
  ·exact .inr (.inr fun s=>by show f (g s)=_;rw [hf,hg])
theorem Simple.twice {q:List UInt8} {f:Option Nd→Option Nd} (hf:Simple q f) (s:Option Nd):f (f s)=f s:=by
 rcases hf with ⟨c,hc⟩ | hf | hf
 ·rw [hc,hc]
 ·rw [hf,hf,delt_delt]
 ·rw [hf,hf]

theorem eff_simple (q:List UInt8) (p:Pt):Simple q (fun s=>effP q s p):=by
 unfold effP
 by_cases hc:(whatN p).1=0∧(whatN p).2.1 ≠ []
 ·simp only [if_pos hc]
  unfold effN
  by_cases h1:q=(nodeOf p (joinS (whatN p).2.1)).1
  ·simp only [if_pos h1];exact .inl ⟨_,fun _=>rfl⟩
  ·simp only [if_neg h1]
   by_cases h2:underL (parts q) (whatN p).2.1=true∧(nodeOf p (joinS (whatN p).2.1)).2.1 ≠ 2
   ·simp only [if_pos h2];exact .inl ⟨_,fun _=>rfl⟩
   ·simp only [if_neg h2]
    by_cases h3:underL (whatN p).2.1 (parts q)=true∧q ≠ []
    ·simp only [if_pos h3];exact .inr (.inl fun _=>rfl)
    ·simp only [if_neg h3];exact .inr (.inr fun _=>rfl)
 ·simp only [if_neg hc];exact .inr (.inr fun _=>rfl)
theorem effs_simple (q:List UInt8):∀ (ps:List Pt),Simple q (fun s=>ps.foldl (effP q) s):=by
 intro ps
 induction ps with
 | nil=>exact .inr (.inr fun _=>rfl)
 | cons p r ih=>exact ih.comp (eff_simple q p)
theorem clrQ_simple (q:List UInt8) (ps:List Pt):Simple q (clrQ q ps):=by
 unfold clrQ
 by_cases h:ps.any (clrB q)=true
 ·simp only [if_pos h];exact .inl ⟨_,fun _=>rfl⟩
 ·simp only [if_neg h];exact .inr (.inr fun _=>rfl)

theorem lay_room {l:List Nd} (hv:Valid l) {ps:List Pt} (ha:allOk ps=true):(layF l ps).2=0∨(layF l ps).2=5:=by
 have hl:layF l ps=runF ps (ps.foldl clrT l):=by unfold layF;rw [if_pos hv,if_pos ha]
 rw [hl]
 exact run_room ps _ ha (folds_valid ps l hv)

theorem lay_twice {l:List Nd} (hv:Valid l) {ps:List Pt} (ha:allOk ps=true) (h0:(layF l ps).2=0):layF (layF l ps).1 ps=((layF l ps).1,0)∨(layF (layF l ps).1 ps).2=5:=by
 obtain ⟨v1,a1⟩:=lay_at hv ha h0
 rcases lay_room v1 ha with h | h
 ·left
  obtain ⟨v2,a2⟩:=lay_at v1 ha h
  have:(layF (layF l ps).1 ps).1=(layF l ps).1:=at_ext v2.ord v1.ord fun q=>by
   rw [a2,a1]
   exact ((effs_simple q ps).comp (clrQ_simple q ps)).twice (atF l q)
  exact Prod.ext this h
 ·exact .inr h

noncomputable def rdF (s:List UInt8):List Pt×Int:=match P_tar_Read (s,()) with
 | some (l,e,_)=>(l,e)
 | none=>([],10)
theorem rdF_val (s:List UInt8):P_tar_Read (s,())=some ((rdF s).1,((rdF s).2,()))∧SmPs (rdF s).1:=by
 obtain ⟨ps,e,r1,r2,r3,_⟩:=read_any s
 unfold rdF
 rw [r1]
 exact ⟨rfl,rd_smps r2 r3⟩
noncomputable def appF (l:List Nd) (s:List UInt8):List Nd×Int:=if (rdF s).2=0 then layF l (rdF s).1 else ([],10)
theorem apply_val {l:List Nd} (hv:Valid l) (s:List UInt8):P_overlay_Apply (l,(s,()))=some ((appF l s).1,((appF l s).2,())):=by
 obtain ⟨r1,r2⟩:=rdF_val s
 rw [apply_any r1 r2 hv]
 unfold appF
 by_cases h:(rdF s).2=0
 ·rw [if_pos h,if_pos h]
 ·rw [if_neg h,if_neg h]
theorem app_cases {l:List Nd} (hv:Valid l) (s:List UInt8):((appF l s).2=0∧Valid (appF l s).1∧(appF (appF l s).1 s=((appF l s).1,0)∨(appF (appF l s).1 s).2=5))∨((appF l s).2 ≠ 0∧(appF l s).1=[]):=by
 unfold appF
 by_cases h:(rdF s).2=0
 ·rw [if_pos h]
  simp only [if_pos h]
  rcases lay_errs hv (rdF s).1 with ⟨a,b⟩ | ⟨a,b,_⟩
  ·exact .inl ⟨a,(lay_at hv b a).1,lay_twice hv b a⟩
  ·exact .inr ⟨a,b⟩
 ·rw [if_neg h]
  exact .inr ⟨by decide,rfl⟩

end Go.Ge

/- The law OverlayApplies: any bytes laid on any nodes: in plain words. -/
namespace Go.Ge
set_option linter.unusedVariables false
set_option linter.unusedSimpArgs false

theorem refZero12 (b:List UInt8) (hb:b.length≤100000):P_ref12_Zero (b,())=some (decide (b.length=512∧∀ x ∈ b,x=0),()):=by
 have e0:∀ y:UInt8,eqI (u8 y) 0=decide (y=0):=fun y=>u8_eq (n:=0)
 have h:=seek (f:=P_ref12_Zero_L0 (b,())) b (fun i=>((false,((i:Int),())),())) (fun x=>!decide (x=0)) (fun j=>(1,((false,((j:Int),())),()))) (0,((false,((b.length:Int),())),())) (fun i x hx=>by
  have hi:=getElem?_lt hx
  unfold P_ref12_Zero_L0
  dsimp only
  rw [ltI_len_true hi,sel_true,idx_some' hx,obind_some,e0,iadd_one (by omega)]
  cases decide (x=0) <;> rfl) (by
  unfold P_ref12_Zero_L0
  dsimp only
  rw [ltI_len_end,sel_false]) b.length 0 (by omega)
 unfold P_ref12_Zero
 rcases h with ⟨j,x,_,hx,hp,_,hL⟩ | ⟨ha,hL⟩
 ·rw [show Loop (P_ref12_Zero_L0 (b,())) ((false,((0:Int),())),())=_ from hL,obind_some,eqN_one,sel_false]
  have hx0:x ≠ 0:=by simpa using hp
  rw [decide_eq_false fun q:b.length=512∧∀ x ∈ b,x=0=>hx0 (q.2 x (List.mem_of_getElem? hx))]
 ·rw [show Loop (P_ref12_Zero_L0 (b,())) ((false,((0:Int),())),())=_ from hL,obind_some,eqN_zero,sel_true]
  have hall:∀ x ∈ b,x=0:=fun x hx=>by
   obtain ⟨i,hi⟩:=mem_at.1 hx
   simpa using ha i x (Nat.zero_le _) hi
  have:eqI (len b) 512=decide (b.length=512∧∀ x ∈ b,x=0):=by
   unfold eqI len
   apply decide_eq_decide.2
   constructor
   ·intro h;exact ⟨by omega,hall⟩
   ·intro h;omega
  rw [this]

theorem refZero13 (b:List UInt8) (hb:b.length≤100000):P_ref13_zero (b,())=some (decide (1024≤b.length∧b.length % 512=0∧∀ x ∈ b,x=0),()):=by
 have e0:∀ y:UInt8,eqI (u8 y) 0=decide (y=0):=fun y=>u8_eq (n:=0)
 have h:=seek (f:=P_ref13_zero_L0 (b,())) b (fun i=>((false,((i:Int),())),())) (fun x=>!decide (x=0)) (fun j=>(1,((false,((j:Int),())),()))) (0,((false,((b.length:Int),())),())) (fun i x hx=>by
  have hi:=getElem?_lt hx
  unfold P_ref13_zero_L0
  dsimp only
  rw [ltI_len_true hi,sel_true,idx_some' hx,obind_some,e0,iadd_one (by omega)]
  cases decide (x=0) <;> rfl) (by
  unfold P_ref13_zero_L0
  dsimp only
  rw [ltI_len_end,sel_false]) b.length 0 (by omega)
 unfold P_ref13_zero
 dsimp only
 by_cases h1:1024≤b.length
 case neg =>
  rw [ltI_true (by rw [len_eq];omega),nt_true,sel_false,obind_some,sel_true,decide_eq_false fun q:1024≤b.length∧b.length % 512=0∧∀ x ∈ b,x=0=>h1 q.1]
 rw [ltI_false (by rw [len_eq];omega),nt_false,sel_true,show eqI 512 0=false from rfl,sel_false,show irem (len b) 512=((b.length % 512:Nat):Int) from rfl]
 by_cases h2:b.length % 512=0
 case neg =>
  rw [eqI_false (by omega),nt_false,obind_some,sel_true,decide_eq_false fun q:1024≤b.length∧b.length % 512=0∧∀ x ∈ b,x=0=>h2 q.2.1]
 rw [eqI_true (by omega),nt_true,obind_some,sel_false]
 rcases h with ⟨j,x,_,hx,hp,_,hL⟩ | ⟨ha,hL⟩
 ·rw [show Loop (P_ref13_zero_L0 (b,())) ((false,((0:Int),())),())=_ from hL,obind_some,eqN_one,sel_false]
  have hx0:x ≠ 0:=by simpa using hp
  rw [decide_eq_false fun q:1024≤b.length∧b.length % 512=0∧∀ x ∈ b,x=0=>hx0 (q.2.2 x (List.mem_of_getElem? hx))]
 ·rw [show Loop (P_ref13_zero_L0 (b,())) ((false,((0:Int),())),())=_ from hL,obind_some,eqN_zero,sel_true]
  have hall:∀ x ∈ b,x=0:=fun x hx=>by
   obtain ⟨i,hi⟩:=mem_at.1 hx
   simpa using ha i x (Nat.zero_le _) hi
  rw [decide_eq_true (⟨h1,h2,hall⟩:1024≤b.length∧b.length % 512=0∧∀ x ∈ b,x=0)]

abbrev PS:=(List UInt8×(List Pt×(Bool×(Unit×Unit))))×(List Pt×Unit)
def ps0 (r:List UInt8) (out:List Pt):PS:=((r,(([]:List Pt),(false,((),())))),(out,()))

theorem next_same (r:List UInt8) (out:List Pt) (hl:r.length≤8192):∃ p ok st,P_tar_Reader_Next ((),(rd r (out.length:Int),()))=some ((p,(ok,())),(st,())) ∧
    ((ok = false ∧ ∃ b z, st = rdEnd (out.length : Int) b ∧ P_ref13_Parts_L0 (ps0 r out) = some (.inr z) ∧ ((z.1 = 0 ∧ b = true) ∨ (z.1 = 1 ∧ z.2.1.2.1 = out ∧ z.2.1.2.2.1 = !b))) ∨
     (ok=true∧∃ r',st=rd r' ((out.length + 1:Nat):Int)∧r'.length + 512≤r.length∧out.length < 64∧P_ref13_Parts_L0 (ps0 r out)=some (.inl (ps0 r' (out ++ [p]))))):=by
  by_cases h512:r.length < 512
  · refine ⟨_,_,_,next_short r out.length h512,.inl ⟨rfl,true,(0,ps0 r out),rfl,?_,.inl ⟨rfl,rfl⟩⟩⟩
    unfold P_ref13_Parts_L0 ps0
    dsimp only
    rw [leI_false (by rw [len_eq];omega),sel_false]
  have ht:(r.take 512).length=512:=by rw [List.length_take];omega
  have hin:inside (0:Int) (512:Int) (len r)=true:=inside_true (by decide) (by decide) (by rw [len_eq];omega)
  by_cases hz:∀ x ∈ r.take 512,x=0
  · refine ⟨_,_,_,next_zero r out.length (by omega) (by omega) hz,.inl ⟨rfl,_,(1,((r,(out,(decide (1024≤r.length∧r.length % 512=0∧∀ x ∈ r,x=0),((),())))),(out,()))),rfl,?_,.inr ⟨rfl,rfl,by simp⟩⟩⟩
    unfold P_ref13_Parts_L0 ps0
    dsimp only
    rw [leI_true (by rw [len_eq];omega),sel_true,hin,sel_true,show sub r 0 (minus 512 0)=r.take 512 from sub_take r 512,refZero12 _ (by omega),obind_some,decide_eq_true (⟨ht,hz⟩:(r.take 512).length=512∧∀ x ∈ r.take 512,x=0),sel_true,refZero13 r (by omega),obind_some]
  have e:=fun b=>ends_val r (out.length:Int) b
  obtain ⟨x,er,t1,t2⟩:=take_ok (r.take 512) ht
  have t3:=(take_same (r.take 512) ht).trans t1
  have hdl:(r.drop 512).length=r.length - 512:=List.length_drop
  unfold P_tar_Reader_Next P_ref13_Parts_L0 ps0
  dsimp only [rd] at e ⊢
  rw [nt_true,nt_false,sel_true,sel_false,ltI_false (by rw [len_eq];omega),sel_false,hin,sel_true,show sub r 0 (minus 512 0)=r.take 512 from sub_take r 512]
  rw [zero_val (r.take 512) (by omega),obind_some,leI_true (a:=512) (b:=len r) (by rw [len_eq];omega),sel_true,sel_true,refZero12 _ (by omega),obind_some]
  dsimp only
  rw [decide_eq_false (fun q:(r.take 512).length=512∧∀ x ∈ r.take 512,x=0=>hz q.2),sel_false,sel_false,sel_true,sel_true,t1,t3,obind_some,obind_some,inside_true (i:=512) (j:=len r) (n:=len r) (by decide) (by rw [len_eq];omega) (Int.le_refl _),sel_true,show sub r 512 (minus (len r) 512)=r.drop 512 from sub_drop r 512 (by omega)]
  dsimp only
  by_cases he:er=0
  case neg =>
    rw [eqI_false he,nt_false,sel_true,e,obind_some]
    exact ⟨_,_,_,rfl,.inl ⟨rfl,_,_,rfl,rfl,.inr ⟨rfl,rfl,rfl⟩⟩⟩
  rw [eqI_true he,nt_true,sel_false]
  have hok:=t2 he
  obtain ⟨s0,s1⟩:=hok.2.2.2.1
  obtain ⟨k,hk⟩:=Int.eq_ofNat_of_zero_le s0
  rw [hk]
  by_cases h8:8192 < k
  · rw [ltI_true (a:=len (r.drop 512)) (by rw [len_eq];omega),sel_true,e,obind_some,ltI_true (a:=8192) (b:=(k:Int)) (by omega)]
    exact ⟨_,_,_,rfl,.inl ⟨rfl,_,_,rfl,rfl,.inr ⟨rfl,rfl,rfl⟩⟩⟩
  have hf:=fillN_lt k
  rw [ltI_false (a:=8192) (b:=(k:Int)) (by omega),show P_ref13_whole ((k:Int),())=_ from whole13_val k (by omega),obind_some]
  dsimp only
  rw [show iadd .i64 512 ((k + fillN k:Nat):Int)=((512 + (k + fillN k):Nat):Int) from iadd_nat (a:=512) (by omega)]
  by_cases h1:(r.drop 512).length < k
  · rw [ltI_true (a:=len (r.drop 512)) (by rw [len_eq];omega),sel_true,e,obind_some,ltI_true (a:=len r) (by rw [len_eq];omega)]
    exact ⟨_,_,_,rfl,.inl ⟨rfl,_,_,rfl,rfl,.inr ⟨rfl,rfl,rfl⟩⟩⟩
  · rw [ltI_false (a := len (r.drop 512)) (by rw [len_eq]; omega), sel_false, fill_val k (by omega), obind_some, iadd_i64 (a := (k : Int)) (by omega) (by omega)]
    dsimp only
    by_cases h2:(r.drop 512).length < k + fillN k
    · rw [ltI_true (a:=len (r.drop 512)) (by rw [len_eq];omega),sel_true,e,obind_some,ltI_true (a:=len r) (by rw [len_eq];omega)]
      exact ⟨_,_,_,rfl,.inl ⟨rfl,_,_,rfl,rfl,.inr ⟨rfl,rfl,rfl⟩⟩⟩
    · rw [ltI_false (a := len (r.drop 512)) (by rw [len_eq]; omega), sel_false, ltI_false (a := len r) (by rw [len_eq]; omega)]
      by_cases h3:64≤out.length
      · rw [leI_true (b:=(out.length:Int)) (by omega),sel_true,e,obind_some,leI_true (b:=len out) (by rw [len_eq];omega)]
        exact ⟨_,_,_,rfl,.inl ⟨rfl,_,_,rfl,rfl,.inr ⟨rfl,rfl,rfl⟩⟩⟩
      · rw [leI_false (b:=(out.length:Int)) (by omega),sel_false,obind_some,iadd_i64 (a:=(k:Int)) (by omega) (by omega),inside_true (i:=(k:Int) + (fillN k:Int)) (by omega) (by rw [len_eq];omega) (Int.le_refl _),sel_true,inside_true (i:=0) (j:=(k:Int)) (by omega) (by omega) (by rw [len_eq];omega),sel_true]
        rw [show sub (r.drop 512) 0 (minus (k:Int) 0)=(r.drop 512).take k from sub_take _ k,show (k:Int) + (fillN k:Int)=((k + fillN k:Nat):Int) by omega,sub_drop _ (k + fillN k) (by omega),iadd_one (by omega)]
        rw [leI_false (b:=len out) (by rw [len_eq];omega)]
        have es:sub r 512 (minus ((512 + k:Nat):Int) 512)=(r.drop 512).take k:=by
          unfold sub minus
          rw [show (((512 + k:Nat):Int) - 512).toNat=k by omega];rfl
        refine ⟨_,_,_,rfl,.inr ⟨rfl,_,rfl,?_,by omega,?_⟩⟩
        · rw [List.length_drop];omega
        · rw [show iadd .i64 512 ((k:Nat):Int)=((512 + k:Nat):Int) from iadd_nat (a:=512) (by omega),es]
          rw [show sel (nt (sel (nt false) false true)) (some false) (some true)=some false from rfl]
          rw [obind_some,nt_false,sel_true,sel_false,inside_true (i:=512) (by decide) (by omega) (by rw [len_eq];omega),sel_true,fits_len2 (by simp only [List.length_cons,List.length_nil];omega),sel_true,obind_some]
          dsimp only
          rw [show iadd .i64 512 ((k + fillN k:Nat):Int)=((512 + (k + fillN k):Nat):Int) from iadd_nat (a:=512) (by omega),inside_true (by omega) (by rw [len_eq];omega) (Int.le_refl _),sel_true,sub_drop r (512 + (k + fillN k)) (by omega),List.drop_drop]
          rfl
theorem rest_same:∀ (m:Nat) (r:List UInt8) (out:List Pt) (p:Pt),r.length≤m→r.length≤8192→out.length≤63 →
    ∃ (out':List Pt) (p':Pt) (b:Int×Bool) (z:Nat×PS),Loop P_tar_Read_L0 (((),((),(true,()))),(p,(out,(rd r ((out.length + 1:Nat):Int),()))))=some (((),((),(false,()))),(p',(out',(rdEnd b.1 b.2,())))) ∧
      Loop P_ref13_Parts_L0 (ps0 r (out ++ [p]))=some z∧((z.1=0∧b.2=true)∨(z.1=1∧z.2.1.2.1=out'∧z.2.1.2.2.1 = !b.2)):=by
  intro m
  induction m using Nat.strongRecOn with
  | _ m ih =>
    intro r out p hm hr h63
    obtain ⟨p1,ok1,st1,h1,h2⟩:=next_same r (out ++ [p]) hr
    have hlen:((out ++ [p]).length:Int)=((out.length + 1:Nat):Int):=by simp
    rw [hlen] at h1
    have hstep:=step_more p out (rd r ((out.length + 1:Nat):Int)) (by omega) h1
    rcases h2 with ⟨rfl,b,z,rfl,k1,k2⟩ | ⟨rfl,r',rfl,k3,k5,k4⟩
    · refine ⟨out ++ [p],p1,(((out ++ [p]).length:Int),b),z,?_,by rw [Loop_eq,k1];rfl,k2⟩
      rw [Loop_eq,hstep]
      show Loop _ _=_
      rw [Loop_eq,step_last];rfl
    · obtain ⟨o,p',b,z,z1,z2,z3⟩:=ih r'.length (by omega) r' (out ++ [p]) p1 (Nat.le_refl _) (by omega) (by omega)
      exact ⟨o,p',b,z,by rw [Loop_eq,hstep];exact z1,by rw [Loop_eq,k4];exact z2,z3⟩

theorem read_same (s:List UInt8):P_ref13_Read (s,())=P_tar_Read (s,()):=by
 by_cases h8:8192 < s.length
 ·rw [read_long s h8]
  unfold P_ref13_Read P_ref13_Parts
  dsimp only
  rw [ltI_true (by rw [len_eq];omega),sel_true,obind_some]
  rfl
 obtain ⟨p,ok,st,h1,h2⟩:=next_same s [] (by omega)
 have fin:∀ (b:Int×Bool) (o:List Pt),(obind (P_tar_Reader_Bad ((),(rdEnd b.1 b.2,()))) fun y3=>sel y3.1.1 (some (([]:List Pt),((10:Int),()))) (some (o,((0:Int),()))))=some (if b.2=true then (([]:List Pt),((10:Int),())) else (o,((0:Int),()))):=fun b o=>by
  obtain ⟨b1,b2⟩:=b
  cases b2 <;> rfl
 have parts:∀ (o:List Pt) (b:Bool) (z:Nat×PS),Loop P_ref13_Parts_L0 (ps0 s [])=some z→((z.1=0∧b=true)∨(z.1=1∧z.2.1.2.1=o∧z.2.1.2.2.1 = !b))→P_ref13_Read (s,())=some (if b=true then (([]:List Pt),((10:Int),())) else (o,((0:Int),()))):=fun o b z hz hc=>by
  unfold P_ref13_Read P_ref13_Parts
  dsimp only
  rw [ltI_false (by rw [len_eq];omega),sel_false,show Loop P_ref13_Parts_L0 ((s,(([]:List Pt),(false,((),())))),(([]:List Pt),()))=_ from hz,obind_some]
  rcases hc with ⟨c1,c2⟩ | ⟨c1,c2,c3⟩
  ·rw [c1,eqN_zero,sel_true,obind_some,c2];rfl
  ·rw [c1,eqN_one,sel_false,obind_some,c2,c3]
   cases b <;> rfl
 have e0:(([]:List Pt).length:Int)=0:=rfl
 unfold P_tar_Read
 dsimp only
 rw [ltI_false (by rw [len_eq];omega),show P_tar_Reader_Next ((),((true,(s,((0:Int),(false,(false,()))))),()))=_ from h1,obind_some]
 dsimp only
 rcases h2 with ⟨rfl,b,z,rfl,k1,k2⟩ | ⟨rfl,r',rfl,k3,k5,k4⟩
 ·rw [Loop_eq,step_last]
  show _=(obind (P_tar_Reader_Bad ((),(rdEnd _ _,()))) fun y3=>sel y3.1.1 (some (([]:List Pt),((10:Int),()))) (some (([]:List Pt),((0:Int),()))))
  rw [fin (_,b),parts [] b z (by rw [Loop_eq,k1];rfl) k2]
 ·obtain ⟨o,p',b,z,z1,z2,z3⟩:=rest_same r'.length r' [] p (Nat.le_refl _) (by omega) (by simp)
  rw [show Loop P_tar_Read_L0 (((),((),(true,()))),(p,(([]:List Pt),(rd r' ((([]:List Pt).length + 1:Nat):Int),()))))=_ from z1,obind_some]
  dsimp only
  rw [fin b o]
  exact parts o b.2 z (by rw [Loop_eq,k4];exact z2) z3

theorem refCheck15_val (s:List UInt8):P_ref15_Check (s,())=some (if (rdF s).2=0∧allOk (rdF s).1=true then 0 else 10,()):=by
 obtain ⟨r1,r2⟩:=rdF_val s
 unfold P_ref15_Check
 dsimp only
 rw [read_same s,r1,obind_some]
 dsimp only
 rw [refClean15_val _ r2,obind_some]
 dsimp only
 by_cases he:(rdF s).2=0
 ·rw [eqI_true he]
  by_cases ha:allOk (rdF s).1=true
  ·rw [ha,if_pos ⟨he,rfl⟩];rfl
  ·have ha2:allOk (rdF s).1=false:=by simpa using ha
   rw [ha2,if_neg (fun q:(rdF s).2=0∧false=true=>Bool.noConfusion q.2)];rfl
 ·rw [eqI_false he,if_neg (fun q:(rdF s).2=0∧allOk (rdF s).1=true=>he q.1)];rfl

theorem lay_bad {l:List Nd} (hv:¬ Valid l) (ps:List Pt):layF l ps=([],1):=by unfold layF;rw [if_neg hv]
theorem lay_unclean {l:List Nd} (hv:Valid l) {ps:List Pt} (ha:¬ allOk ps=true):layF l ps=([],10):=by unfold layF;rw [if_pos hv,if_neg ha]

theorem apply_both (l:List Nd) (hl:SmL l) (s:List UInt8):∃ r e,P_overlay_Apply (l,(s,()))=some (r,(e,()))∧P_ref15_Apply (l,(s,()))=some (r,(e,()))∧r.length≤64:=by
 obtain ⟨r1,r2⟩:=rdF_val s
 by_cases hv:Valid l
 ·obtain ⟨v,v1,v2⟩:=isTree_val l hl
  have hlf:(appF l s).1.length≤64:=by
   rcases app_cases hv s with ⟨_,h,_⟩ | ⟨_,h⟩
   ·exact h.few
   ·rw [h];simp
  refine ⟨_,_,apply_val hv s,?_,hlf⟩
  unfold P_ref15_Apply
  dsimp only
  rw [v1,obind_some,v2.2 hv]
  dsimp only
  rw [nt_true,sel_false,refCheck15_val s,obind_some,read_same s,r1]
  dsimp only
  unfold appF
  by_cases he:(rdF s).2=0
  ·rw [if_pos he]
   by_cases ha:allOk (rdF s).1=true
   ·rw [if_pos (⟨he,ha⟩:(rdF s).2=0∧allOk (rdF s).1=true),show nt (eqI 0 0)=false from rfl,sel_false,obind_some,refLay_val l _ hl r2,obind_some]
   ·rw [if_neg (fun q:(rdF s).2=0∧allOk (rdF s).1=true=>ha q.2),lay_unclean hv ha];rfl
  ·rw [if_neg he,if_neg (fun q:(rdF s).2=0∧allOk (rdF s).1=true=>he q.1)];rfl
 ·obtain ⟨v,v1,v2⟩:=isTree_val l hl
  obtain ⟨c,c1,c2⟩:=check_val' l hl
  have hvf:v=false:=by
   cases v with
   | false=>rfl
   | true=>exact absurd (v2.1 rfl) hv
  have hc:c ≠ 0:=fun q=>hv (c2.1 q)
  refine ⟨[],1,?_,?_,by simp⟩
  ·unfold P_overlay_Apply
   dsimp only
   rw [r1,obind_some,c1,obind_some]
   dsimp only
   rw [lay_val l _ hl r2,obind_some,lay_bad hv,eqI_false hc]
   cases eqI (rdF s).2 0 <;> rfl
  ·unfold P_ref15_Apply
   dsimp only
   rw [v1,obind_some,hvf]
   rfl

theorem check_val15 (s:List UInt8):P_overlay_Check (s,())=P_ref15_Check (s,()):=by
 obtain ⟨r1,r2⟩:=rdF_val s
 rw [check_any r1 r2,refCheck15_val]

theorem overlayApplies_val (l:List Nd) (s:List UInt8):P_law15_OverlayApplies (l,(s,()))=some (true,()):=by
 obtain ⟨f1,e1,g1⟩:=few14_val l 66 66 rfl (by omega)
 unfold P_law15_OverlayApplies
 dsimp only
 rw [e1,obind_some]
 dsimp only
 refine ifawake15 fun hc=>?_
 have hf:f1=true:=by
  cases f1 with
  | true=>rfl
  | false=>cases hc
 obtain ⟨la,ha⟩:=g1 hf
 obtain ⟨r,e,a1,a2,a3⟩:=apply_both l ha s
 rw [a1,a2,obind_some,obind_some]
 dsimp only
 rw [same_val r r (by omega),obind_some,check_val15 s,refCheck15_val s,obind_some,obind_some,awake15,decide_eq_true rfl,eqI_true rfl]
 dsimp only
 rw [eqI_true rfl]
 rfl
end Go.Ge
