/- Plain laws of what the functions compute: part 4. -/
import Derived.Test.YtpcimoekpbilgaaGreatDoorPlC
import Derived.Lib.ParseIntBCases
import Derived.Lib.ItoaMem
/- The law TreeTells: a tree's text tells it: in plain words. -/
namespace Go.Ge
set_option linter.unusedVariables false
set_option linter.unusedSimpArgs false

set_option synthInstance.maxHeartbeats 200000 in
set_option synthInstance.maxSize 4000 in
instance decNd:DecidableEq Nd:=inferInstance

theorem same_val (l m:List Nd) (hl:l.length≤4294967296):P_ref14_Same (l,(m,()))=some (decide (l=m),()):=by
  by_cases e:l=m
  · subst e
    rw [t14_same_self l hl];simp
  · unfold P_ref14_Same
    dsimp only
    rw [eqI_lens,decide_eq_false e]
    by_cases hlen:l.length=m.length
    · rw [decide_eq_true hlen, nt_true, sel_false]
      rcases srch (f:=P_ref14_Same_L0 (l,(m,()))) l (fun i=>((false,(i,())),())) (fun i x=>match m[i]? with | some y=>!decide (x=y) | none=>false) (fun i x=>(1,((false,((i:Int),())),()))) ((0:Nat),((false,((l.length:Int),())),())) hl (fun i x hx hi ha=>by
          unfold P_ref14_Same_L0
          dsimp only
          obtain ⟨y,hy⟩:∃ y,m[i]? = some y:=⟨_,List.getElem?_eq_getElem (by omega)⟩
          rw [ltI_len_true hi,ltI_len_true (show i < m.length by omega),sel_true,sel_true,idx_some' hx,obind_some,idx_some' hy,obind_some,ha,hy]
          have hq:an (eqS x.1 y.1) (an (eqI x.2.1 y.2.1) (an (eqI x.2.2.1 y.2.2.1) (an (eqS x.2.2.2.1 y.2.2.2.1) (an (eqS x.2.2.2.2.1 y.2.2.2.2.1) true))))=decide (x=y):=by
            obtain ⟨x1,x2,x3,x4,x5,x6⟩:=x
            obtain ⟨y1,y2,y3,y4,y5,y6⟩:=y
            unfold an eqS eqI
            rw [Bool.eq_iff_iff]
            simp
          rw [hq]
          by_cases hxy:x=y
          · simp [hxy,sel,nt]
          · simp [hxy,sel,nt]) (by unfold P_ref14_Same_L0;dsimp only;rw [ltI_len_end,sel_false,sel_false]) with ⟨i,x,_,_,_,h⟩ | ⟨hn,h⟩
      · rw [h];rfl
      · exfalso
        apply e
        apply List.ext_getElem?
        intro i
        by_cases hi:i < l.length
        · have hx:l[i]? = some l[i]:=List.getElem?_eq_getElem hi
          have hy:m[i]? = some m[i]:=List.getElem?_eq_getElem (by omega)
          have:=hn i l[i] hx
          rw [hy] at this
          simp at this
          rw [hx,hy,this]
        · rw [List.getElem?_eq_none (by omega),List.getElem?_eq_none (by omega)]
    · rw [decide_eq_false hlen,nt_false,sel_true]

end Go.Ge

/- What is put into a tree leaves a tree; the law TreeStays: in plain words. -/
namespace Go.Ge
set_option linter.unusedVariables false
set_option linter.unusedSimpArgs false

theorem insF_cons (a:Nd) (r:List Nd) (n:Nd):insF (a :: r) n=if cmp a n.1 < 0 then a :: insF r n else n :: a :: r:=by
 unfold insF
 by_cases h:cmp a n.1 < 0
 ·rw [if_pos h,List.takeWhile_cons,List.dropWhile_cons]
  simp [h]
 ·rw [if_neg h,List.takeWhile_cons,List.dropWhile_cons]
  simp [h]
theorem mem_insF {r:List Nd} {n x:Nd}:x ∈ insF r n ↔ x=n∨x ∈ r:=by
  induction r with
  | nil=>simp [insF]
  | cons a r ih =>
    rw [insF_cons]
    split
    · rw [List.mem_cons,ih,List.mem_cons]
      constructor
      · rintro (h | h | h)
        · exact .inr (.inl h)
        · exact .inl h
        · exact .inr (.inr h)
      · rintro (h | h | h)
        · exact .inr (.inl h)
        · exact .inl h
        · exact .inr (.inr h)
    · rw [List.mem_cons]
theorem insF_len (r:List Nd) (n:Nd):(insF r n).length=r.length + 1:=by
 unfold insF
 rw [List.length_append,List.length_cons,← Nat.add_assoc,← List.length_append,List.takeWhile_append_dropWhile]

theorem ord_pairs {l:List Nd}:Ord l ↔ l.Pairwise fun x y=>cmpL (key x) (key y) < 0:=by
 constructor
 ·intro h
  rw [List.pairwise_iff_getElem]
  intro i j hi hj hij
  exact h i j _ _ hij (List.getElem?_eq_getElem hi) (List.getElem?_eq_getElem hj)
 ·intro h i j x y hij hx hy
  rw [List.pairwise_iff_getElem] at h
  obtain ⟨h1,h2⟩:=List.getElem?_eq_some_iff.1 hx
  obtain ⟨h3,h4⟩:=List.getElem?_eq_some_iff.1 hy
  rw [← h2,← h4]
  exact h i j h1 h3 hij

theorem insF_ord {r:List Nd} {n:Nd} (hr:Ord r) (hn:∀ x ∈ r,x.1 ≠ n.1):Ord (insF r n):=by
  rw [ord_pairs] at hr ⊢
  induction r with
  | nil=>simp [insF]
  | cons a r ih =>
    rw [List.pairwise_cons] at hr
    rw [insF_cons]
    split
    · rename_i h
      refine List.pairwise_cons.2 ⟨fun y hy=>?_,ih hr.2 fun x hx=>hn x (by simp [hx])⟩
      rcases mem_insF.1 hy with rfl | hy
      · exact h
      · exact hr.1 y hy
    · rename_i h
      have ha:cmpL (key n) (key a) < 0:=by
        have h1:cmp a n.1 ≠ 0:=fun e=>hn a (by simp) (cmp_zero e)
        have h2:cmpL (key n) (key a) = - cmpL (key a) (key n):=cmpL_neg _ _
        have h3:cmp a n.1=cmpL (key a) (key n):=rfl
        omega
      refine List.pairwise_cons.2 ⟨fun y hy=>?_,List.pairwise_cons.2 hr⟩
      rcases List.mem_cons.1 hy with rfl | hy
      · exact ha
      · exact cmpL_trans ha (hr.1 y hy)

theorem under_up {x y:Nd} {p:List UInt8} (hu:(splitF x.1).1 ≠ []) (e:y.1=(splitF x.1).1) (h:underL (parts y.1) (parts p)=true):underL (parts x.1) (parts p)=true:=by
 have hk:=parent_key hu
 rw [← e] at hk
 unfold underL at h ⊢
 obtain ⟨h1,h2⟩:=of_decide_eq_true h
 refine decide_eq_true ⟨?_,?_⟩
 ·rw [hk,List.length_append];omega
 ·rw [hk,List.take_append_of_le_length (by omega),h2]
theorem under_self {x:Nd} (hu:(splitF x.1).1 ≠ []):underL (parts x.1) (parts (splitF x.1).1)=true:=by
 have hk:=parent_key hu
 unfold underL
 refine decide_eq_true ⟨?_,?_⟩
 ·rw [hk,List.length_append];simp
 ·rw [hk];simp

def PutRest (l:List Nd) (n:Nd) (r:List Nd):Prop :=
 (((∃ x ∈ l,x.1=n.1∧x.2.1=2)∧n.2.1=2)∧r=l.filter (fun x=>!decide (x.1=n.1)))∨((¬ ((∃ x ∈ l,x.1=n.1∧x.2.1=2)∧n.2.1=2))∧r=restF l n.1)

theorem putF_cases (l:List Nd) (n:Nd):((t14_putF l n).1=[]∧(t14_putF l n).2 ≠ 0) ∨
    (Valid l∧mayF n=true∧((splitF n.1).1=[]∨∃ x ∈ l,x.1=(splitF n.1).1∧x.2.1=2)∧∃ r,PutRest l n r∧r.length < 64∧t14_putF l n=(insF r n,0)):=by
  unfold t14_putF
  by_cases h1:¬ Valid l∨mayF n=false
  · rw [if_pos h1];exact .inl ⟨rfl,by decide⟩
  · rw [if_neg h1]
    by_cases h2:(splitF n.1).1 ≠ []∧∀ x ∈ l,x.1 ≠ (splitF n.1).1
    · rw [if_pos h2];exact .inl ⟨rfl,by decide⟩
    · rw [if_neg h2]
      by_cases h3:(splitF n.1).1 ≠ []∧∀ x ∈ l,x.1=(splitF n.1).1→x.2.1 ≠ 2
      · rw [if_pos h3];exact .inl ⟨rfl,by decide⟩
      · rw [if_neg h3]
        have hv:Valid l:=Classical.byContradiction fun h=>h1 (.inl h)
        have hm:mayF n=true:=by
          cases h:mayF n with
          | true=>rfl
          | false=>exact absurd (.inr h) h1
        have hu:(splitF n.1).1=[]∨∃ x ∈ l,x.1=(splitF n.1).1∧x.2.1=2:=by
          by_cases h0:(splitF n.1).1=[]
          · exact .inl h0
          · right
            refine Classical.byContradiction fun h=>h3 ⟨h0,fun x hx e h2=>h ⟨x,hx,e,h2⟩⟩
        by_cases h4:(∃ x ∈ l,x.1=n.1∧x.2.1=2)∧n.2.1=2
        · simp only [if_pos h4]
          by_cases h5:64≤(l.filter fun x=>!decide (x.1=n.1)).length
          · rw [if_pos h5];exact .inl ⟨rfl,by decide⟩
          · rw [if_neg h5]
            exact .inr ⟨hv,hm,hu,_,.inl ⟨h4,rfl⟩,by omega,rfl⟩
        · simp only [if_neg h4]
          by_cases h5:64≤(restF l n.1).length
          · rw [if_pos h5];exact .inl ⟨rfl,by decide⟩
          · rw [if_neg h5]
            exact .inr ⟨hv,hm,hu,_,.inr ⟨h4,rfl⟩,by omega,rfl⟩

theorem PutRest.sub {l r:List Nd} {n:Nd} (h:PutRest l n r):(∀ x ∈ r,x ∈ l∧x.1 ≠ n.1)∧∃ P,r=l.filter P:=by
 rcases h with ⟨_,rfl⟩ | ⟨_,rfl⟩
 ·refine ⟨fun x hx=>?_,_,rfl⟩
  have:=List.mem_filter.1 hx
  simpa using this
 ·refine ⟨fun x hx=>?_,_,rfl⟩
  have:=List.mem_filter.1 hx
  unfold gone at this
  simp at this
  exact ⟨this.1,this.2.1⟩

theorem put_valid {l r:List Nd} {n:Nd} (hv:Valid l) (hm:mayF n=true) (hu:(splitF n.1).1=[]∨∃ x ∈ l,x.1=(splitF n.1).1∧x.2.1=2) (hr:PutRest l n r) (h64:r.length < 64):Valid (insF r n):=by
  obtain ⟨hsub,P,hP⟩:=hr.sub
  have ho:Ord r:=by rw [hP];exact hv.ord.filter P
  refine ⟨by rw [insF_len];omega,insF_ord ho fun x hx=>(hsub x hx).2,fun x hx=>?_,fun x hx=>?_⟩
  · rcases mem_insF.1 hx with rfl | hx
    · exact hm
    · exact hv.may x (hsub x hx).1
  · rcases mem_insF.1 hx with rfl | hx
    · -- the node's own directory
      rcases hu with h | ⟨y,hy,hy1,hy2⟩
      · exact .inl h
      · by_cases h0 : (splitF x.1).1 = []
        · exact .inl h0
        · right
          refine ⟨y,mem_insF.2 (.inr ?_),hy1,hy2⟩
          have hself:=under_self h0
          rw [← hy1] at hself
          have hlen:(parts y.1).length < (parts x.1).length:=by
            unfold underL at hself
            exact (of_decide_eq_true hself).1
          have hne:y.1 ≠ x.1:=fun e=>by rw [e] at hlen;omega
          have hnu:underL (parts y.1) (parts x.1)=false:=by
            unfold underL
            exact decide_eq_false fun h=>by omega
          rcases hr with ⟨_,rfl⟩ | ⟨_,rfl⟩
          · exact List.mem_filter.2 ⟨hy,by simp [hne]⟩
          · exact List.mem_filter.2 ⟨hy,by unfold gone;simp [hne,hnu]⟩
    · rcases hv.up x (hsub x hx).1 with h | ⟨y,hy,hy1,hy2⟩
      · exact .inl h
      · by_cases h0 : (splitF x.1).1 = []
        · exact .inl h0
        · right
          have hself:=under_self h0
          by_cases e:y.1=n.1
          · rcases hr with ⟨h4,rfl⟩ | ⟨_,rfl⟩
            · exact ⟨n,mem_insF.2 (.inl rfl),by rw [← e,hy1],h4.2⟩
            · have:=(List.mem_filter.1 hx).2
              rw [← hy1,e] at hself
              unfold gone at this
              rw [hself] at this
              simp at this
          · refine ⟨y,mem_insF.2 (.inr ?_),hy1,hy2⟩
            rcases hr with ⟨_,rfl⟩ | ⟨_,rfl⟩
            · exact List.mem_filter.2 ⟨hy,by simp [e]⟩
            · refine List.mem_filter.2 ⟨hy,?_⟩
              have hx2:=(List.mem_filter.1 hx).2
              unfold gone at hx2 ⊢
              cases hun:underL (parts y.1) (parts n.1) with
              | false=>simp [e]
              | true =>
                rw [under_up h0 hy1 hun] at hx2
                simp at hx2

end Go.Ge

/- Diffs laid on trees: which paths and nodes an entry may name: in plain words. -/
namespace Go.Ge
set_option linter.unusedVariables false
set_option linter.unusedSimpArgs false

def NmOk (ns:List (List UInt8)):Prop:=∀ x ∈ ns,47 ∉ x∧x ≠ []
def dirM (m:Int) (p:List UInt8):Nd:=(p,((2:Int),(m,(([]:List UInt8),(([]:List UInt8),())))))
def preP (ns:List (List UInt8)) (j:Nat):List UInt8:=joinS (ns.take (j + 1))
def dirsOf (ns:List (List UInt8)) (k:Nat):List Nd:=(List.range k).map fun j=>dirM 0 (preP ns j)

theorem dirsOf_succ (ns:List (List UInt8)) (k:Nat):dirsOf ns (k + 1)=dirsOf ns k ++ [dirM 0 (preP ns k)]:=by
 unfold dirsOf
 rw [List.range_succ,List.map_append];rfl
theorem dirsOf_len (ns:List (List UInt8)) (k:Nat):(dirsOf ns k).length=k:=by unfold dirsOf;rw [List.length_map,List.length_range]
theorem joinP_take {ns:List (List UInt8)} (h:NmOk ns) {i:Nat} {x:List UInt8} (hx:ns[i]? = some x):joinP (joinS (ns.take i)) x=preP ns i:=by
 have ht:ns.take (i + 1)=ns.take i ++ [x]:=by rw [List.take_add_one,hx];rfl
 have:=joinP_fold [x] (ns.take i) (fun y hy=>by
  rw [← ht] at hy
  exact h y (List.mem_of_mem_take hy))
 unfold preP
 rw [ht]
 exact this

theorem joinS_take_len:∀ (ns:List (List UInt8)) (k:Nat),(joinS (ns.take k)).length≤(joinS ns).length:=by
  intro ns
  induction ns with
  | nil=>intro k;simp
  | cons x r ih =>
    intro k
    cases k with
    | zero=>simp [joinS]
    | succ k =>
      rw [List.take_succ_cons]
      cases r with
      | nil=>simp
      | cons y r =>
        cases k with
        | zero=>simp [joinS]
        | succ k =>
          have:=ih (k + 1)
          rw [List.take_succ_cons] at this ⊢
          simp only [joinS,List.length_append,List.length_cons] at this ⊢
          omega
theorem joinS_mem_len:∀ (ns:List (List UInt8)) (x:List UInt8),x ∈ ns→x.length≤(joinS ns).length:=by
  intro ns
  induction ns with
  | nil=>intro x hx;cases hx
  | cons a r ih =>
    intro x hx
    cases r with
    | nil =>
      rw [List.mem_singleton] at hx
      subst hx;simp [joinS]
    | cons b r =>
      simp only [joinS,List.length_append,List.length_cons]
      rcases List.mem_cons.1 hx with rfl | hx
      · omega
      · have:=ih x hx
        omega

def ShN (ns:List (List UInt8)):Prop:=NmOk ns∧ns.length≤16∧(joinS ns).length≤200
theorem ShN.pre_len {ns:List (List UInt8)} (h:ShN ns) (k:Nat):(joinS (ns.take k)).length≤200:=Nat.le_trans (joinS_take_len ns k) h.2.2
theorem ShN.mem_len {ns:List (List UInt8)} (h:ShN ns) {x:List UInt8} (hx:x ∈ ns):x.length≤200:=Nat.le_trans (joinS_mem_len ns x hx) h.2.2
theorem ShN.take {ns:List (List UInt8)} (h:ShN ns) (k:Nat):ShN (ns.take k):=⟨fun x hx=>h.1 x (List.mem_of_mem_take hx),by rw [List.length_take];have:=h.2.1;omega,h.pre_len k⟩

theorem isNode_loop (ns:List (List UInt8)) (h:ShN ns):Loop (P_overlay_isNode_L0 (ns,())) (((),(([]:List UInt8),((0:Int),()))),(([]:List Nd),())) =
  some (((),(joinS ns,((ns.length:Int),()))),(dirsOf ns ns.length,())):=by
 obtain ⟨t,ht,h1,_⟩:=fold_loop (f:=P_overlay_isNode_L0 (ns,())) ns (fun (s:List UInt8×List Nd) i=>(((),(s.1,(i,()))),(s.2,()))) (fun s i x=>(joinP s.1 x,s.2 ++ [dirM 0 (joinP s.1 x)])) (fun s=>(((),(s.1,((ns.length:Int),()))),(s.2,())))
  (fun s i=>s.1=joinS (ns.take i)∧s.2=dirsOf ns i) (by have:=h.2.1;omega) (fun s i x hx hi hadd hI=>by
   have hxl:=h.mem_len (List.mem_of_getElem? hx)
   have hpl:=h.pre_len i
   have hlen:=dirsOf_len ns i
   have h16:=h.2.1
   constructor
   ·unfold P_overlay_isNode_L0
    dsimp only
    rw [ltI_len_true hi,sel_true,idx_some' hx,obind_some,pjoin_val _ _ (by rw [hI.1];omega) (by omega),obind_some,fits_len2 (by rw [hI.2,hlen];simp only [List.length_cons,List.length_nil];omega),sel_true,hadd]
    rfl
   ·dsimp only
    rw [hI.1,hI.2,joinP_take h.1 hx,dirsOf_succ]
    exact ⟨rfl,rfl⟩) (fun s _=>by
   unfold P_overlay_isNode_L0
   dsimp only
   rw [ltI_len_end,sel_false]
   rfl) ([],[]) ⟨by simp [joinS],rfl⟩
 rw [h1,ht.1,ht.2,List.take_length]

def preB (ns:List (List UInt8)) (k:Nat):Bool:=(List.range k).all fun j=>mayF (dirM 0 (preP ns j))

theorem preP_split {ns:List (List UInt8)} (h:NmOk ns) {j:Nat} (hj:j < ns.length):(splitF (preP ns j)).1=joinS (ns.take j):=by
 have hne:ns.take (j + 1) ≠ []:=by
  intro e
  have:=congrArg List.length e
  rw [List.length_take,List.length_nil] at this
  omega
 unfold preP
 rw [splitF_join (fun x hx=>h x (List.mem_of_mem_take hx)) hne]
 dsimp only
 rw [List.dropLast_eq_take,List.length_take,List.take_take]
 congr 2
 omega
theorem preP_parts {ns:List (List UInt8)} (h:NmOk ns) (j:Nat):parts (preP ns j)=ns.take (j + 1):=parts_joinS _ fun x hx=>h x (List.mem_of_mem_take hx)
theorem joinS_nil {ns:List (List UInt8)} (h:NmOk ns):joinS ns=[] ↔ ns=[]:=by
 constructor
 ·intro e
  have:=parts_joinS ns h
  rw [e] at this
  exact this.symm
 ·rintro rfl;rfl

theorem valid_node {ns:List (List UInt8)} (h:ShN ns) (hne:ns ≠ []) {n:Nd} (hn:n.1=joinS ns) :
    Valid (dirsOf ns (ns.length - 1) ++ [n]) ↔ (preB ns (ns.length - 1)=true∧mayF n=true):=by
  have hk:0 < ns.length:=List.length_pos_iff.2 hne
  have hat:∀ (j:Nat) (x:Nd),(dirsOf ns (ns.length - 1) ++ [n])[j]? = some x→x.1=preP ns j∧j < ns.length∧(j < ns.length - 1→x=dirM 0 (preP ns j)):=by
    intro j x hx
    rw [List.getElem?_append,dirsOf_len] at hx
    by_cases hj:j < ns.length - 1
    · rw [if_pos hj] at hx
      unfold dirsOf at hx
      rw [List.getElem?_map,List.getElem?_range hj] at hx
      obtain rfl:=Option.some.inj hx
      exact ⟨rfl,by omega,fun _=>rfl⟩
    · rw [if_neg hj] at hx
      have:j - (ns.length - 1)=0:=by
        have:=getElem?_lt hx
        simp at this
        omega
      rw [this] at hx
      obtain rfl:=Option.some.inj hx
      have hjl:j=ns.length - 1:=by omega
      refine ⟨?_,by omega,fun h=>absurd h hj⟩
      rw [hn]
      unfold preP
      rw [hjl,List.take_of_length_le (by omega)]
  constructor
  · intro hv
    refine ⟨?_,hv.may n (by simp)⟩
    unfold preB
    rw [List.all_eq_true]
    intro j hj
    rw [List.mem_range] at hj
    refine hv.may _ (List.mem_append_left _ ?_)
    unfold dirsOf
    exact List.mem_map.2 ⟨j,List.mem_range.2 hj,rfl⟩
  · rintro ⟨h1,h2⟩
    unfold preB at h1
    rw [List.all_eq_true] at h1
    refine ⟨?_,?_,?_,?_⟩
    · rw [List.length_append,dirsOf_len]
      have:=h.2.1
      simp;omega
    · intro i j x y hij hx hy
      obtain ⟨x1,x2,_⟩:=hat i x hx
      obtain ⟨y1,y2,_⟩:=hat j y hy
      unfold key
      rw [x1,y1,preP_parts h.1,preP_parts h.1]
      have e:ns.take (j + 1)=ns.take (i + 1) ++ (ns.take (j + 1)).drop (i + 1):=by
        have:=(List.take_append_drop (i + 1) (ns.take (j + 1))).symm
        rwa [List.take_take,Nat.min_eq_left (by omega)] at this
      rw [e,cmpL_app]
      · decide
      · intro e2
        have:=congrArg List.length e2
        rw [List.length_drop,List.length_take] at this
        simp at this
        omega
    · intro x hx
      rcases List.mem_append.1 hx with hx | hx
      · obtain ⟨j,hj,rfl⟩:=List.mem_map.1 hx
        exact h1 j hj
      · rw [List.mem_singleton] at hx
        subst hx;exact h2
    · intro x hx
      obtain ⟨j,hj⟩:=mem_at.1 hx
      obtain ⟨x1,x2,_⟩:=hat j x hj
      rw [x1,preP_split h.1 x2]
      cases j with
      | zero=>left;rfl
      | succ j =>
        right
        refine ⟨dirM 0 (preP ns j),List.mem_append_left _ ?_,rfl,rfl⟩
        unfold dirsOf
        exact List.mem_map.2 ⟨j,List.mem_range.2 (by omega),rfl⟩

theorem isNode_val {ns:List (List UInt8)} (h:ShN ns) (hne:ns ≠ []) {n:Nd} (hn:n.1=joinS ns) (hs:Sm n) :
  P_overlay_isNode (n,())=some (preB ns (ns.length - 1) && mayF n,()):=by
 have hk:0 < ns.length:=List.length_pos_iff.2 hne
 have hsp:splitF n.1=(joinS ns.dropLast,ns.getLast hne):=by rw [hn];exact splitF_join h.1 hne
 have hpl:=h.pre_len (ns.length - 1)
 have hdl:ns.dropLast=ns.take (ns.length - 1):=List.dropLast_eq_take
 have hsh:ShN (ns.take (ns.length - 1)):=h.take _
 have hpp:parts (joinS (ns.take (ns.length - 1)))=ns.take (ns.length - 1):=parts_joinS _ hsh.1
 have hdo:dirsOf (ns.take (ns.length - 1)) (ns.take (ns.length - 1)).length=dirsOf ns (ns.length - 1):=by
  rw [List.length_take,Nat.min_eq_left (by omega)]
  unfold dirsOf
  apply List.map_congr_left
  intro j hj
  rw [List.mem_range] at hj
  unfold preP
  rw [List.take_take,Nat.min_eq_left (by omega)]
 unfold P_overlay_isNode
 dsimp only
 rw [psplit_val n.1 (by have:=hs.1;omega),obind_some,hsp]
 dsimp only
 rw [hdl,parts_val _ (by omega),obind_some,hpp,isNode_loop _ hsh,obind_some,hdo]
 dsimp only
 have hnn:n.1 ≠ []:=by rw [hn];exact fun e=>hne ((joinS_nil h.1).1 e)
 rw [eqS_false hnn,nt_false,sel_true,fits_len2 (by rw [dirsOf_len];have:=h.2.1;simp only [List.length_cons,List.length_nil];omega),sel_true]
 have hsm:SmL (dirsOf ns (ns.length - 1) ++ [n]):=⟨by rw [List.length_append,dirsOf_len];have:=h.2.1;simp;omega,fun x hx=>by
  rcases List.mem_append.1 hx with hx | hx
  ·obtain ⟨j,hj,rfl⟩:=List.mem_map.1 hx
   rw [List.mem_range] at hj
   exact ⟨h.pre_len (j + 1),by simp [dirM],by simp [dirM]⟩
  ·rw [List.mem_singleton] at hx
   subst hx;exact hs⟩
 obtain ⟨e,c1,c2⟩:=check_val' _ hsm
 rw [app_eq,c1,obind_some]
 dsimp only
 have hv:=valid_node h hne hn
 rw [show eqI e 0=(preB ns (ns.length - 1) && mayF n) by
  rw [Bool.eq_iff_iff,Bool.and_eq_true,← hv,← c2]
  unfold eqI
  simp]

theorem may_dir {n:Nd} (h:mayF n=true):mayF (dirM 0 n.1)=true:=by
 unfold mayF at h ⊢
 simp only [Bool.and_eq_true] at h ⊢
 exact ⟨⟨⟨h.1.1.1,by simp [dirM]⟩,by simp [dirM]⟩,by simp [kindF,dirM]⟩

theorem refIsPath_val {ns:List (List UInt8)} (h:ShN ns):P_ref15_isPath (joinS ns,())=some (preB ns ns.length && decide (ns ≠ []),()):=by
  have hpp:parts (joinS ns)=ns:=parts_joinS _ h.1
  have hpl:=h.pre_len ns.length
  rw [List.take_length] at hpl
  unfold P_ref15_isPath
  dsimp only
  rw [refParts_val _ (by omega),obind_some,hpp]
  have key:∀ (d k:Nat),k + d=ns.length→(∀ j,j < k→mayF (dirM 0 (preP ns j))=true) →
      ∃ r,Loop (P_ref15_isPath_L0 (ns,())) ((false,(joinS (ns.take k),((k:Int),()))),())=some r∧((r.1=0∧preB ns ns.length=true)∨(r.1=1∧r.2.1.1=false∧preB ns ns.length=false)):=by
    intro d
    induction d with
    | zero =>
      intro k hk hall
      obtain rfl:k=ns.length:=by omega
      refine ⟨(0,((false,(joinS (ns.take ns.length),((ns.length:Int),()))),())),?_,.inl ⟨rfl,?_⟩⟩
      · rw [Loop_eq]
        unfold P_ref15_isPath_L0
        dsimp only
        rw [ltI_len_end,sel_false];rfl
      · unfold preB
        rw [List.all_eq_true]
        exact fun j hj=>hall j (List.mem_range.1 hj)
    | succ d ih =>
      intro k hk hall
      have hx:ns[k]? = some ns[k]:=List.getElem?_eq_getElem (by omega)
      have hxl:=h.mem_len (List.getElem_mem (show k < ns.length by omega))
      have hpk:=h.pre_len k
      have hpk1:=h.pre_len (k + 1)
      have h16:=h.2.1
      have step:P_ref15_isPath_L0 (ns,()) ((false,(joinS (ns.take k),((k:Int),()))),())=some (if mayF (dirM 0 (preP ns k))=true then .inl ((false,(preP ns k,(((k + 1:Nat):Int),()))),()) else .inr (1,((false,(preP ns k,((k:Int),()))),()))):=by
        unfold P_ref15_isPath_L0
        dsimp only
        have hm:=t14_may_val (dirM 0 (preP ns k)) (by show (preP ns k).length≤4096;unfold preP;omega) (by simp [dirM])
        unfold dirM at hm
        rw [ltI_len_true (show k < ns.length by omega),sel_true,idx_some' hx,obind_some,refpjoin_val _ _ (by omega) (by omega),obind_some,joinP_take h.1 hx,hm,obind_some,iadd_one (by omega)]
        unfold dirM
        cases mayF (preP ns k,((2:Int),((0:Int),(([]:List UInt8),(([]:List UInt8),()))))) <;> rfl
      by_cases hm:mayF (dirM 0 (preP ns k))=true
      · rw [if_pos hm] at step
        obtain ⟨r,r1,r2⟩:=ih (k + 1) (by omega) (fun j hj=>by
          by_cases hjk:j=k
          · rw [hjk];exact hm
          · exact hall j (by omega))
        exact ⟨r,by rw [Loop_eq,step];exact r1,r2⟩
      · rw [if_neg hm] at step
        refine ⟨_,by rw [Loop_eq,step];rfl,.inr ⟨rfl,rfl,?_⟩⟩
        unfold preB
        rw [List.all_eq_false]
        exact ⟨k,List.mem_range.2 (by omega),hm⟩
  obtain ⟨r,r1,r2⟩:=key ns.length 0 (by omega) (fun j hj=>by omega)
  have r1':Loop (P_ref15_isPath_L0 (ns,())) ((false,(([]:List UInt8),((0:Int),()))),())=some r:=by
    have:joinS (ns.take 0)=[]:=by simp [joinS]
    rw [this] at r1
    exact r1
  rw [r1',obind_some]
  rcases r2 with ⟨a1,a2⟩ | ⟨a1,a2,a3⟩
  · rw [a1,show eqN 0 0=true from rfl,sel_true,a2,Bool.true_and]
    congr 2
    unfold nt eqS
    rw [Bool.eq_iff_iff]
    have:=joinS_nil h.1
    simp [this]
  · rw [a1,show eqN 1 0=false from rfl,sel_false,a2,a3];rfl
end Go.Ge

/- Diffs laid on trees: what an entry does: in plain words. -/
namespace Go.Ge
set_option linter.unusedVariables false
set_option linter.unusedSimpArgs false

def pathB (ns:List (List UInt8)):Bool:=preB ns ns.length && decide (ns ≠ [])
theorem pre_all {ns:List (List UInt8)} (hne:ns ≠ []):preB ns ns.length=(preB ns (ns.length - 1) && mayF (dirM 0 (joinS ns))):=by
 have hk:0 < ns.length:=List.length_pos_iff.2 hne
 have e:ns.length=ns.length - 1 + 1:=by omega
 unfold preB
 conv=>lhs;rw [e]
 rw [List.range_succ,List.all_append]
 have:preP ns (ns.length - 1)=joinS ns:=by unfold preP;rw [List.take_of_length_le (by omega)]
 simp [this]

theorem node_path {ns:List (List UInt8)} (hne:ns ≠ []) {n:Nd} (hn:n.1=joinS ns):(preB ns (ns.length - 1) && mayF n)=(mayF n && pathB ns):=by
  unfold pathB
  rw [pre_all hne,decide_eq_true hne]
  cases hm:mayF n with
  | false=>simp
  | true =>
    have:=may_dir hm
    rw [hn] at this
    rw [this];simp

theorem isNode_nil {n:Nd} (hn:n.1=[]):P_overlay_isNode (n,())=some (false,()):=by
 unfold P_overlay_isNode
 dsimp only
 have hsp:splitF ([]:List UInt8)=([],[]):=by decide
 rw [hn,psplit_val _ (by simp),obind_some,hsp]
 dsimp only
 rw [parts_val _ (by simp),obind_some,show parts []=[] from rfl]
 have:=isNode_loop [] ⟨fun x hx=>(by cases hx),(by simp),(by simp [joinS])⟩
 rw [this,obind_some]
 rfl

theorem isDir_val {ns:List (List UInt8)} (h:ShN ns):P_overlay_isDir (joinS ns,())=some (decide (ns=[]) || pathB ns,()):=by
 unfold P_overlay_isDir
 dsimp only
 by_cases hne:ns=[]
 ·subst hne;rfl
 ·have hnn:joinS ns ≠ []:=fun e=>hne ((joinS_nil h.1).1 e)
  have hs:Sm (dirM 0 (joinS ns)):=⟨h.2.2,by simp [dirM],by simp [dirM]⟩
  have:=isNode_val h hne (n:=dirM 0 (joinS ns)) rfl hs
  unfold dirM at this
  rw [eqS_false hnn,nt_false,sel_true,this,obind_some,obind_some,decide_eq_false hne,Bool.false_or]
  dsimp only
  unfold pathB
  rw [pre_all hne,decide_eq_true hne,Bool.and_true]
  rfl

def nodeOf (p:Pt) (path:List UInt8):Nd:=(path,(p.1.2.1,(p.1.2.2.1,(p.2.1,(p.1.2.2.2.2.2.2.2.1,())))))
def emptyB (p:Pt):Bool:=decide (p.1.2.1=1) && decide (p.2.1=[])
def goneNs (ns:List (List UInt8)):List (List UInt8):=ns.dropLast ++ [(markF (ns.getLastD [])).2]
def whatN (p:Pt):Int×List (List UInt8)×Bool :=
 if cleanOk p.1.1=true then
  let ns:=names p.1.1
  if (markF (ns.getLastD [])).1=1 then (1,(goneNs ns,emptyB p && pathB (goneNs ns)))
  else if (markF (ns.getLastD [])).1=2 then (2,(ns.dropLast,emptyB p && (decide (ns.dropLast=[]) || pathB ns.dropLast)))
  else if (markF (ns.getLastD [])).1=0 then (0,(ns,(decide (ns=[]) && decide (p.1.2.1=2)) || (mayF (nodeOf p (joinS ns)) && pathB ns)))
  else (0,([],false))
 else (0,([],false))

theorem clean_sh {s:List UInt8} (h:cleanOk s=true):ShN (names s):=by
 obtain ⟨h1,h2,h3⟩:=clean_names h
 exact ⟨fun x hx=>⟨(names_mem s x hx).1,(names_mem s x hx).2.1⟩,by omega,by omega⟩
theorem clean_last {s:List UInt8} (h:cleanOk s=true):((names s).getLastD []).length≤96:=by
  obtain ⟨h1,h2,h3⟩:=clean_names h
  cases hn:names s with
  | nil=>simp
  | cons a r =>
    have:(a :: r).getLastD [] ∈ names s:=by
      rw [hn,List.getLastD_cons,← List.getLast_eq_getLastD (h:=by simp)]
      exact List.getLast_mem _
    have:=joinS_mem_len (names s) _ this
    omega
theorem split_clean {ns:List (List UInt8)} (h:NmOk ns):splitF (joinS ns)=(joinS ns.dropLast,ns.getLastD []):=by
 by_cases hne:ns=[]
 ·subst hne;decide
 ·rw [splitF_join h hne]
  cases ns with
  | nil=>exact absurd rfl hne
  | cons a r=>rw [List.getLast_eq_getLastD,List.getLastD_cons]

theorem mark_one {n:List UInt8} (h:(markF n).1=1):(markF n).2=n.drop 4∧n.drop 4 ≠ []:=by
 unfold markF at h ⊢
 split at h
 ·rename_i hw
  rw [if_pos hw]
  split at h
  ·cases h
  ·rename_i h1
   rw [if_neg h1]
   split at h
   ·cases h
   ·rename_i h2
    rw [if_neg h2]
    exact ⟨rfl,fun e=>h2 (.inr (.inl e))⟩
 ·cases h
theorem mark_two {n:List UInt8} (h:(markF n).1 ≠ 0):n ≠ []:=by
 rintro rfl
 exact h (by decide)
theorem mark_cases (n:List UInt8):(markF n).1=0∨(markF n).1=1∨(markF n).1=2∨(markF n).1=3:=by
 unfold markF
 split
 ·split
  ·exact .inr (.inr (.inl rfl))
  ·split
   ·exact .inr (.inr (.inr rfl))
   ·exact .inr (.inl rfl)
 ·exact .inl rfl

theorem joinP_le (d n:List UInt8):(joinP d n).length≤d.length + n.length + 1:=by
 unfold joinP
 split <;> simp <;> omega
theorem gone_join {s:List UInt8} (h:cleanOk s=true) (hm:(markF ((names s).getLastD [])).1=1):joinP (joinS (names s).dropLast) (markF ((names s).getLastD [])).2=joinS (goneNs (names s))∧ShN (goneNs (names s)):=by
  have hsh:=clean_sh h
  obtain ⟨e,hne⟩:=mark_one hm
  have hlne:(names s).getLastD [] ≠ []:=mark_two (by rw [hm];decide)
  have hnn:names s ≠ []:=fun q=>hlne (by rw [q];rfl)
  have hmem:(names s).getLastD [] ∈ names s:=by
    cases hn:names s with
    | nil=>exact absurd hn hnn
    | cons a r =>
      rw [List.getLastD_cons,← List.getLast_eq_getLastD (h:=by simp)]
      exact List.getLast_mem _
  have hok:NmOk (goneNs (names s)):=fun x hx=>by
    unfold goneNs at hx
    rcases List.mem_append.1 hx with hx | hx
    · exact hsh.1 x (by rw [List.dropLast_eq_take] at hx;exact List.mem_of_mem_take hx)
    · rw [List.mem_singleton] at hx
      subst hx
      rw [e]
      exact ⟨fun q=>(hsh.1 _ hmem).1 (List.mem_of_mem_drop q),hne⟩
  have hj:joinP (joinS (names s).dropLast) (markF ((names s).getLastD [])).2=joinS (goneNs (names s)):=joinP_fold [_] _ hok
  refine ⟨hj,hok,?_,?_⟩
  · unfold goneNs
    rw [List.length_append,List.length_dropLast]
    have:=hsh.2.1
    simp
    have:=List.length_pos_iff.2 hnn
    omega
  · rw [← hj]
    have h1:=joinP_le (joinS (names s).dropLast) (markF ((names s).getLastD [])).2
    have h2:=clean_last h
    have h3:(joinS (names s).dropLast).length≤96:=by
      rw [List.dropLast_eq_take]
      have:=joinS_take_len (names s) ((names s).length - 1)
      have:=(clean_names h).2.2
      omega
    have h4:(markF ((names s).getLastD [])).2.length≤96:=by rw [e,List.length_drop];omega
    omega
theorem drop_sh {ns:List (List UInt8)} (h:ShN ns):ShN ns.dropLast:=by
 rw [List.dropLast_eq_take];exact h.take _

def SmP (p:Pt):Prop:=p.1.1.length≤300∧p.1.2.2.2.2.2.2.2.1.length≤300∧p.2.1.length≤8192

theorem refWhat_val (p:Pt) (hp:SmP p):P_ref15_what (p,())=some ((whatN p).1,(joinS (whatN p).2.1,((whatN p).2.2,()))):=by
  unfold P_ref15_what
  dsimp only
  rw [refClean_val p.1.1 (by have:=hp.1;omega),obind_some]
  dsimp only
  unfold whatN
  cases hc:cleanOk p.1.1 with
  | false =>
    have:cleanF p.1.1=([],2):=by unfold cleanF;rw [hc];rfl
    rw [this,if_neg (by simp)]
    rfl
  | true =>
    have hcf:cleanF p.1.1=(joinS (names p.1.1),0):=by unfold cleanF;rw [hc];rfl
    have hsh:=clean_sh hc
    have h96:=(clean_names hc).2.2
    rw [hcf,if_pos rfl]
    dsimp only
    rw [show nt (eqI 0 0)=false from rfl,sel_false,refSplit_val _ (by omega),obind_some,split_clean hsh.1]
    dsimp only
    rw [refMark_val,obind_some]
    dsimp only
    have he:∀ (A:Option Bool),(sel (sel (eqI p.1.2.1 1) (eqS p.2.1 []) false) A (some false))=if emptyB p=true then A else some false:=fun A=>by
      unfold emptyB eqI eqS
      by_cases h1:p.1.2.1=1
      · by_cases h2:p.2.1=[]
        · simp [h1,h2,sel]
        · simp [h1,h2,sel]
      · simp [h1,sel]
    have hl96:=clean_last hc
    rcases mark_cases ((names p.1.1).getLastD []) with hm | hm | hm | hm
    · rw [hm,show eqI 0 1=false from rfl,sel_false,show eqI 0 2=false from rfl,sel_false,show eqI 0 0=true from rfl,sel_true,if_neg (by decide),if_neg (by decide),if_pos rfl]
      unfold P_ref15_node
      dsimp only
      rw [obind_some]
      dsimp only
      have hmay:=t14_may_val (nodeOf p (joinS (names p.1.1))) (by show (joinS (names p.1.1)).length≤4096;omega) (by show p.1.2.2.2.2.2.2.2.1.length≤4096;have:=hp.2.1;omega)
      rw [show P_ref14_May ((joinS (names p.1.1),(p.1.2.1,(p.1.2.2.1,(p.2.1,(p.1.2.2.2.2.2.2.2.1,()))))),())=_ from hmay,obind_some,refIsPath_val hsh,obind_some]
      dsimp only
      have e1:sel (eqS (joinS (names p.1.1)) []) (eqI p.1.2.1 2) false=(decide (names p.1.1=[]) && decide (p.1.2.1=2)):=by
        have:=joinS_nil hsh.1
        unfold eqS eqI
        by_cases h1:names p.1.1=[]
        · rw [decide_eq_true h1,decide_eq_true (this.2 h1)];simp [sel]
        · rw [decide_eq_false h1,decide_eq_false fun e=>h1 (this.1 e)];rfl
      rw [e1]
      cases decide (names p.1.1=[]) && decide (p.1.2.1=2) with
      | true=>rfl
      | false =>
        rw [nt_false,sel_true]
        unfold pathB
        cases mayF (nodeOf p (joinS (names p.1.1))) <;> rfl
    · obtain ⟨g1,g2⟩:=gone_join hc hm
      rw [hm,show eqI 1 1=true from rfl,sel_true,if_pos rfl,refpjoin_val _ _ (by have:=(drop_sh hsh).2.2;omega) (by rw [(mark_one hm).1,List.length_drop];omega),obind_some,g1]
      dsimp only
      rw [refIsPath_val g2,obind_some,he]
      unfold pathB
      cases emptyB p <;> rfl
    · rw [hm,show eqI 2 1=false from rfl,sel_false,show eqI 2 2=true from rfl,sel_true,if_neg (by decide),if_pos rfl]
      have hd:=drop_sh hsh
      rw [refIsPath_val hd,obind_some,he]
      have e1:eqS (joinS (names p.1.1).dropLast) []=decide ((names p.1.1).dropLast=[]):=by
        have:=joinS_nil hd.1
        unfold eqS
        exact decide_eq_decide.2 this
      rw [e1]
      unfold pathB
      cases emptyB p <;> cases decide ((names p.1.1).dropLast=[]) <;> rfl
    · rw [hm,show eqI 3 1=false from rfl,sel_false,show eqI 3 2=false from rfl,sel_false,show eqI 3 0=false from rfl,sel_false,if_neg (by decide),if_neg (by decide),if_neg (by decide)]
      rfl
end Go.Ge

/- Numbers' decimal digits in plain words. -/
namespace Go.Ge
set_option linter.unusedVariables false
set_option linter.unusedSimpArgs false
set_option maxRecDepth 100000

/-! ### What is parsed of digits -/
/-! ### The reference's digits -/
/-! ### The reference's number -/
end Go.Ge

/- Octal digits in plain words; the laws of digits. -/
namespace Go.Ge
set_option linter.unusedVariables false
set_option linter.unusedSimpArgs false
set_option maxRecDepth 100000

/-! ### The number of octal digits -/
def octStep (i:Nat) (n:Nat) (x:UInt8):Option (Nat ⊕ (Nat×(Int×Bool×Int×Int×Unit)×Unit)) :=
 some (if x.toNat < 48∨55 < x.toNat then .inr (1,((0,(false,((n:Int),((i:Int),())))),())) else .inl (8 * n + (x.toNat - 48)))
def octFin (i:Nat) (n:Nat):Nat×(Int×Bool×Int×Int×Unit)×Unit:=(0,((0,(false,((n:Int),((i:Int),())))),()))

theorem octStep_in {i n n':Nat} {x:UInt8} (hI:i≤21∧n < 8 ^ i) (hi:i < 21) (hs:octStep i n x=some (.inl n')):i + 1≤21∧n' < 8 ^ (i + 1):=by
 unfold octStep at hs
 have hs:=Option.some.inj hs
 split at hs
 ·cases hs
 ·obtain rfl:=Sum.inl.inj hs
  refine ⟨by omega,?_⟩
  rw [Nat.pow_succ]
  omega

theorem pow8_le {i:Nat} (h:i≤20):8 ^ i≤1152921504606846976:=by
 have:(8:Nat) ^ i≤8 ^ 20:=Nat.pow_le_pow_right (by decide) h
 have e:(8:Nat) ^ 20=1152921504606846976:=by decide
 omega

theorem fromOctal_run (s:List UInt8) (hs:s.length≤21):Loop (P_digits_FromOctal_L0 (s,())) ((0,(false,(0,(0,())))),())=runL octStep octFin s 0 0:=by
  have key:=loop_run (f:=P_digits_FromOctal_L0 (s,())) s (fun (n:Nat) i=>((0,(false,((n:Int),((i:Int),())))),())) octStep octFin (fun i n=>i≤21∧n < 8 ^ i)
    (fun n i x hx hi hI=>by
      have hp:=pow8_le (i:=i) (by omega)
      obtain ⟨h1,h2⟩:=List.getElem?_eq_some_iff.1 hx
      have hxl:=x.toNat_lt
      unfold P_digits_FromOctal_L0 octStep
      dsimp only
      rw [len_bytes,ltI_true (by omega),sel_true,within_true (by omega) (by omega),sel_true,idx_bytes s hi,h2,obind_some,iadd_one (by omega)]
      by_cases a:x.toNat < 48
      · rw [ltI_true (by unfold u8;omega),nt_true,sel_false,sel_true,if_pos (.inl a)];rfl
      · by_cases b : 55 < x.toNat
        · rw [ltI_false (by unfold u8;omega),nt_false,sel_true,ltI_true (by unfold u8;omega),sel_true,if_pos (.inr b)];rfl
        · rw [ltI_false (by unfold u8;omega),nt_false,sel_true,ltI_false (by unfold u8;omega),sel_false,show ltI 3 0=false from rfl,sel_false,if_neg (by omega)]
          have e:u8 x=((48 + (x.toNat - 48):Nat):Int):=by unfold u8;omega
          rw [e,ior8 (by omega) (by omega)]
          rfl)
    (fun n i x n' hx hI hq=>octStep_in hI (by have:=getElem?_lt hx;omega) hq)
    (fun n hI=>by
      unfold P_digits_FromOctal_L0 octFin
      dsimp only
      rw [len_bytes,ltI_false (by omega),sel_false])
    (fun _ _ _ _ _ h=>by cases h) 0 ⟨by omega,by decide⟩
  exact key

theorem refFromOctal_run (s:List UInt8) (hs:s.length≤21):Loop (P_ref01_FromOctal_L0 (s,())) ((0,(false,(0,(0,())))),())=runL octStep octFin s 0 0:=by
  have key:=loop_run (f:=P_ref01_FromOctal_L0 (s,())) s (fun (n:Nat) i=>((0,(false,((n:Int),((i:Int),())))),())) octStep octFin (fun i n=>i≤21∧n < 8 ^ i)
    (fun n i x hx hi hI=>by
      have hp:=pow8_le (i:=i) (by omega)
      have hxl:=x.toNat_lt
      unfold P_ref01_FromOctal_L0 octStep
      dsimp only
      rw [ltI_len_true hi,sel_true,idx_some' hx,obind_some,obind_some,obind_some,iadd_one (by omega)]
      by_cases a:x.toNat < 48
      · rw [ltI_true (by unfold u8;omega),nt_true,sel_false,obind_some,nt_true,sel_false,sel_true,if_pos (.inl a)];rfl
      · by_cases b : 55 < x.toNat
        · rw [ltI_false (by unfold u8;omega),nt_false,sel_true,obind_some,ltI_true (by unfold u8;omega),nt_true,sel_false,sel_true,if_pos (.inr b)];rfl
        · rw [ltI_false (by unfold u8;omega),nt_false,sel_true,obind_some,ltI_false (by unfold u8;omega),nt_false,sel_true,ltI_false (by omega),sel_false,if_neg (by omega)]
          have e:u8 x=((48 + (x.toNat - 48):Nat):Int):=by unfold u8;omega
          rw [e,sub48 ⟨x.toNat - 48,by omega⟩,imul_i64 (by omega) (by omega),iadd_i64 (by dsimp only;omega) (by dsimp only;omega)]
          have e2:(8:Int) * (n:Int) + ((x.toNat - 48:Nat):Int)=((8 * n + (x.toNat - 48):Nat):Int):=by omega
          dsimp only
          rw [e2]
          rfl)
    (fun n i x n' hx hI hq=>octStep_in hI (by have:=getElem?_lt hx;omega) hq)
    (fun n hI=>by
      unfold P_ref01_FromOctal_L0 octFin
      dsimp only
      rw [ltI_len_end,sel_false])
    (fun _ _ _ _ _ h=>by cases h) 0 ⟨by omega,by decide⟩
  exact key

theorem oct_run_total:∀ (r:List UInt8) (i n:Nat),∃ q,runL octStep octFin r i n=some q∧(q.1=0∨q.1=1):=by
  intro r
  induction r with
  | nil=>intro i n;exact ⟨_,rfl,.inl rfl⟩
  | cons x r ih =>
    intro i n
    unfold runL octStep
    by_cases h:x.toNat < 48∨55 < x.toNat
    · rw [if_pos h];exact ⟨_,rfl,.inr rfl⟩
    · rw [if_neg h];exact ih (i + 1) _

theorem fromOctal_same (s:List UInt8) (hs:s.length≤1048576):P_digits_FromOctal (s,())=P_ref01_FromOctal (s,())∧∃ n b,P_digits_FromOctal (s,())=some (n,(b,())):=by
  unfold P_digits_FromOctal P_ref01_FromOctal
  dsimp only
  by_cases h1:s.length < 1
  · rw [ltI_true (by rw [len_eq];omega),nt_true,sel_false,sel_true,sel_true];exact ⟨rfl,_,_,rfl⟩
  · by_cases h2 : 21 < s.length
    · rw [ltI_false (by rw [len_eq];omega),nt_false,sel_true,ltI_true (by rw [len_eq];omega),sel_true,sel_true];exact ⟨rfl,_,_,rfl⟩
    · rw [ltI_false (by rw [len_eq];omega),nt_false,sel_true,ltI_false (by rw [len_eq];omega),sel_false,sel_false,fits_true (by rw [len_eq];omega),sel_true,fromOctal_run s (by omega),refFromOctal_run s (by omega)]
      refine ⟨rfl,?_⟩
      obtain ⟨q,hq,hc⟩:=oct_run_total s 0 0
      rw [hq,obind_some]
      rcases hc with c | c
      · rw [c,eqN_zero,sel_true];exact ⟨_,_,rfl⟩
      · rw [c,eqN_one,sel_false];exact ⟨_,_,rfl⟩

/-! ### Of as many digits the greater number has the greater text -/
/-! ### awake -/
end Go.Ge

/- What any block is taken as: the code's answer and the reference's are one: in plain words. -/
namespace Go.Ge
set_option linter.unusedVariables false
set_option linter.unusedSimpArgs false

theorem seek {α S R:Type} {f:S→Option (S ⊕ R)} (l:List α) (mk:Nat→S) (p:α→Bool) (hit:Nat→R) (fin:R)
    (h:∀ (i:Nat) (x:α),l[i]? = some x→f (mk i)=some (if p x=true then .inr (hit i) else .inl (mk (i + 1)))) (hend:f (mk l.length)=some (.inr fin)) :
    ∀ (d i:Nat),i + d=l.length→(∃ (j:Nat) (x:α),i≤j∧l[j]? = some x∧p x=true∧(∀ (m:Nat) (y:α),i≤m→m < j→l[m]? = some y→p y=false)∧Loop f (mk i)=some (hit j)) ∨
      ((∀ (m:Nat) (y:α),i≤m→l[m]? = some y→p y=false)∧Loop f (mk i)=some fin):=by
  intro d
  induction d with
  | zero =>
    intro i hi
    obtain rfl:i=l.length:=by omega
    refine .inr ⟨fun m y hm hy=>?_,by rw [Loop_eq,hend];rfl⟩
    have:=getElem?_lt hy
    omega
  | succ d ih =>
    intro i hi
    have hx:l[i]? = some l[i]:=List.getElem?_eq_getElem (by omega)
    have hs:=h i _ hx
    by_cases hp:p l[i]=true
    · rw [if_pos hp] at hs
      exact .inl ⟨i,_,Nat.le_refl _,hx,hp,fun m y hm hmi=>absurd hm (by omega),by rw [Loop_eq,hs];rfl⟩
    · rw [if_neg hp] at hs
      have hpf:p l[i]=false:=by simpa using hp
      rcases ih (i + 1) (by omega) with ⟨j,x,j1,j2,j3,j4,j5⟩ | ⟨j1,j2⟩
      · refine .inl ⟨j,x,by omega,j2,j3,fun m y hm hmj hy=>?_,by rw [Loop_eq,hs];exact j5⟩
        by_cases e:m=i
        · subst e;rw [hx] at hy;rw [← Option.some.inj hy];exact hpf
        · exact j4 m y (by omega) hmj hy
      · refine .inr ⟨fun m y hm hy=>?_,by rw [Loop_eq,hs];exact j2⟩
        by_cases e:m=i
        · subst e;rw [hx] at hy;rw [← Option.some.inj hy];exact hpf
        · exact j1 m y (by omega) hy

theorem rtrim_split (p:UInt8→Bool) (s:List UInt8):∃ z,s=rtrim p s ++ z∧∀ x ∈ z,p x=true:=by
 refine ⟨(s.reverse.takeWhile p).reverse,?_,fun x hx=>?_⟩
 ·unfold rtrim
  rw [← List.reverse_append,List.takeWhile_append_dropWhile,List.reverse_reverse]
 ·rw [List.mem_reverse] at hx
  exact mem_while hx
theorem rtrim_at {p:UInt8→Bool} {s:List UInt8} {m:Nat} {x:UInt8} (hx:s[m]? = some x) (hp:p x=false):m < (rtrim p s).length∧∀ j,j≤m→(rtrim p s)[j]? = s[j]?:=by
 obtain ⟨z,hz,hall⟩:=rtrim_split p s
 have hm:m < (rtrim p s).length:=by
  apply Classical.byContradiction
  intro hge
  have h2:(rtrim p s ++ z)[m]? = some x:=by rw [← hz];exact hx
  rw [List.getElem?_append_right (by omega)] at h2
  have:=hall x (List.mem_of_getElem? h2)
  rw [hp] at this;cases this
 refine ⟨hm,fun j hj=>?_⟩
 conv=>rhs;rw [hz]
 rw [List.getElem?_append_left (by omega)]
theorem rtrim_take {p:UInt8→Bool} {s:List UInt8} {j:Nat} (h1:∀ (m:Nat) (y:UInt8),j≤m→s[m]? = some y→p y=true) (h2:∀ (m:Nat) (y:UInt8),m < j→s[m]? = some y→p y=false):rtrim p s=s.take j:=by
 have e:s=s.take j ++ s.drop j:=(List.take_append_drop j s).symm
 conv=>lhs;rw [e]
 rw [rtrim_all _ _ (fun x hx=>by
  obtain ⟨i,hi⟩:=mem_at.1 hx
  rw [List.getElem?_drop] at hi
  exact h1 (j + i) x (by omega) hi)]
 refine rtrim_id fun x hx=>?_
 rw [List.getLast?_eq_getElem?] at hx
 have hl:=getElem?_lt hx
 rw [List.length_take] at hx hl
 rw [List.getElem?_take_of_lt (by omega)] at hx
 exact h2 _ x (by omega) hx

def isOct (x:UInt8):Bool:=decide (48≤x.toNat∧x.toNat≤55)
theorem oct_nb {x:UInt8} (h:isOct x=true):isNB x=false:=by
  unfold isOct at h
  have h:=of_decide_eq_true h
  cases hb:isNB x with
  | false=>rfl
  | true =>
    rcases (isNB_iff x).1 hb with e | e
    · subst e;exact absurd h.1 (by decide)
    · subst e;exact absurd h.1 (by decide)

theorem oct_run_bad:∀ (r:List UInt8) (i n:Nat) (x:UInt8),x ∈ r→isOct x=false→∃ q,runL octStep octFin r i n=some q∧q.1=1∧q.2.1.2.1=false:=by
  intro r
  induction r with
  | nil=>intro i n x hx;cases hx
  | cons a r ih =>
    intro i n x hx hb
    unfold runL octStep
    by_cases h:a.toNat < 48∨55 < a.toNat
    · rw [if_pos h];exact ⟨_,rfl,rfl,rfl⟩
    · rw [if_neg h]
      rcases List.mem_cons.1 hx with e | hx
      · subst e
        unfold isOct at hb
        have:=of_decide_eq_false hb
        omega
      · exact ih (i + 1) _ x hx hb

theorem fromOctal_bad {s:List UInt8} (hs:s.length≤21) {x:UInt8} (hx:x ∈ s) (hb:isOct x=false):∃ n,P_digits_FromOctal (s,())=some (n,(false,())):=by
 have hpos:0 < s.length:=List.length_pos_of_mem hx
 unfold P_digits_FromOctal
 dsimp only
 rw [ltI_false (by rw [len_eq];omega),nt_false,sel_true,ltI_false (by rw [len_eq];omega),sel_false,fits_true (by rw [len_eq];omega),sel_true,fromOctal_run s hs]
 obtain ⟨q,q1,q2,q3⟩:=oct_run_bad s 0 0 x hx hb
 rw [q1,obind_some,q2,eqN_one,sel_false,q3]
 exact ⟨_,rfl⟩

theorem le48 (x:UInt8):leI 48 (u8 x)=decide (48≤x.toNat):=by unfold leI u8;apply decide_eq_decide.2;omega
theorem le55 (x:UInt8):leI (u8 x) 55=decide (x.toNat≤55):=by unfold leI u8;apply decide_eq_decide.2;omega

theorem number_same (s:List UInt8) (hs:s.length≤21):P_ref12_number (s,())=P_header_number (s,()):=by
  unfold P_ref12_number P_header_number
  dsimp only
  rw [trimRight_nb s (by omega),obind_some]
  dsimp only
  have first:=seek (f:=P_ref12_number_L0 (s,())) s (fun i=>(((i:Int),()),())) (fun x=>!isOct x) (fun j=>(((j:Int),()),())) (((s.length:Int),()),()) (fun i x hx=>by
    have hi:=getElem?_lt hx
    unfold P_ref12_number_L0
    dsimp only
    rw [ltI_len_true hi,sel_true,idx_some' hx,obind_some,obind_some,obind_some,le48,le55,iadd_one (by omega)]
    unfold isOct
    by_cases h1:48≤x.toNat
    · by_cases h2:x.toNat≤55
      · rw [decide_eq_true h1,decide_eq_true h2,decide_eq_true ⟨h1,h2⟩];rfl
      · rw [decide_eq_true h1,decide_eq_false h2,decide_eq_false (fun q:48≤x.toNat∧x.toNat≤55=>h2 q.2)];rfl
    · rw [decide_eq_false h1,decide_eq_false (fun q:48≤x.toNat∧x.toNat≤55=>h1 q.1)];rfl) (by
    unfold P_ref12_number_L0
    dsimp only
    rw [ltI_len_end,sel_false];rfl) s.length 0 (by omega)
  rcases first with ⟨j,x,_,hx,hp,hbef,hL⟩ | ⟨hall,hL⟩
  · rw [show Loop (P_ref12_number_L0 (s, ())) (((0 : Int), ()), ()) = _ from hL, obind_some]
    have hj:=getElem?_lt hx
    have hxo:isOct x=false:=by simpa using hp
    dsimp only
    rw [eqI_false (by rw [len_eq];omega),sel_false]
    have second:=seek (f:=P_ref12_number_L1 (s,())) s (fun i=>(((0:Int),((i:Int),())),())) (fun x=>!isNB x) (fun j=>(1,(((-1:Int),((j:Int),())),()))) (0,(((0:Int),((s.length:Int),())),())) (fun i y hy=>by
      have hi:=getElem?_lt hy
      have e0:eqI (u8 y) 0=decide (y=0):=u8_eq (n:=0)
      have e32:eqI (u8 y) 32=decide (y=32):=u8_eq (n:=32)
      unfold P_ref12_number_L1
      dsimp only
      rw [ltI_len_true hi,sel_true,idx_some' hy,obind_some,obind_some,e0,e32,iadd_one (by omega)]
      have hnb:=isNB_iff y
      by_cases h1:y=0
      · rw [decide_eq_true h1,hnb.2 (.inl h1)];rfl
      · by_cases h2:y=32
        · rw [decide_eq_false h1,decide_eq_true h2,hnb.2 (.inr h2)];rfl
        · rw [decide_eq_false h1,decide_eq_false h2,show isNB y=false by
            cases hb:isNB y with
            | false=>rfl
            | true => rcases hnb.1 hb with e | e
                      · exact absurd e h1
                      · exact absurd e h2];rfl) (by
      unfold P_ref12_number_L1
      dsimp only
      rw [ltI_len_end,sel_false]) (s.length - j) j (by omega)
    rcases second with ⟨m,y,hm,hy,hq,_,hL2⟩ | ⟨hall2,hL2⟩
    · rw [show Loop (P_ref12_number_L1 (s,())) (((0:Int),((j:Int),())),())=_ from hL2,obind_some,eqN_one,sel_false]
      obtain ⟨r1,r2⟩:=rtrim_at (p:=isNB) hy (by simpa using hq)
      have hmem:x ∈ rtrim isNB s:=by
        refine mem_at.2 ⟨j,?_⟩
        rw [r2 j hm,hx]
      have hlen:=rtrim_length isNB s
      obtain ⟨n,hn⟩:=fromOctal_bad (by omega) hmem hxo
      rw [hn,obind_some]
      rfl
    · rw [show Loop (P_ref12_number_L1 (s,())) (((0:Int),((j:Int),())),())=_ from hL2,obind_some,eqN_zero,sel_true]
      have hrt:rtrim isNB s=s.take j:=rtrim_take (fun m y hm hy=>by simpa using hall2 m y hm hy) (fun m y hm hy=>oct_nb (by simpa using hbef m y (Nat.zero_le _) hm hy))
      have hin:inside (0:Int) (j:Int) (len s)=true:=inside_len (a:=0) (Nat.zero_le _) (by omega)
      rw [hin,sel_true,sub_take,hrt]
      obtain ⟨h1,n,b,h2⟩:=fromOctal_same (s.take j) (by rw [List.length_take];omega)
      rw [← h1,h2,obind_some,obind_some]
      dsimp only
      rw [eqI_false (show len (s.take j) ≠ len s by rw [len_eq,len_eq,List.length_take];omega)]
      cases b <;> rfl
  · rw [show Loop (P_ref12_number_L0 (s,())) (((0:Int),()),())=_ from hL,obind_some,eqI_true (by rw [len_eq]),sel_true]
    have hrt:rtrim isNB s=s:=by
      have:=rtrim_take (p:=isNB) (s:=s) (j:=s.length) (fun m y hm hy=>by have:=getElem?_lt hy;omega) (fun m y hm hy=>oct_nb (by simpa using hall m y (Nat.zero_le _) hy))
      rw [this,List.take_length]
    rw [hrt]
    obtain ⟨_,n,b,h2⟩:=fromOctal_same s (by omega)
    rw [h2,obind_some]
    dsimp only
    rw [eqI_true rfl]
    cases b <;> rfl

theorem text_same (s:List UInt8) (hs:s.length≤1000):∃ t ok,P_ref12_text (s,())=some (t,(ok,()))∧P_header_text (s,())=some (rtrim isNul s,(ok,()))∧(ok=true→t=rtrim isNul s)∧t.length≤s.length:=by
  have e0:∀ y:UInt8,eqI (u8 y) 0=isNul y:=fun y=>rfl
  rw [text_val s (by omega)]
  unfold P_ref12_text
  have inner:∀ i:Nat,i≤s.length→_:=fun i hi=>seek (f:=P_ref12_text_L1 (s,())) s (fun k=>((([]:List UInt8),(false,((k:Int),()))),())) (fun x=>!isNul x) (fun j=>(1,((([]:List UInt8),(false,((j:Int),()))),()))) (0,((([]:List UInt8),(false,((s.length:Int),()))),())) (fun k y hy=>by
    have hk:=getElem?_lt hy
    unfold P_ref12_text_L1
    dsimp only
    rw [ltI_len_true hk,sel_true,idx_some' hy,obind_some,e0,iadd_one (by omega)]
    cases isNul y <;> rfl) (by
    unfold P_ref12_text_L1
    dsimp only
    rw [ltI_len_end,sel_false]) (s.length - i) i (by omega)
  have outer:(∃ (i:Nat) (x:UInt8),s[i]? = some x∧isNul x=true∧(∀ (m:Nat) (y:UInt8),m < i→s[m]? = some y→isNul y=false)∧Loop (P_ref12_text_L0 (s,())) ((([]:List UInt8),(false,((0:Int),()))),())=(obind (Loop (P_ref12_text_L1 (s,())) ((([]:List UInt8),(false,((i:Int),()))),())) fun y3=>some (if y3.1=0 then (1,((s.take i,(true,((i:Int),()))),())) else (1,((y3.2.1.1,(y3.2.1.2.1,((i:Int),()))),()))))) ∨
      ((∀ (m:Nat) (y:UInt8),s[m]? = some y→isNul y=false)∧Loop (P_ref12_text_L0 (s,())) ((([]:List UInt8),(false,((0:Int),()))),())=some (0,((([]:List UInt8),(false,((s.length:Int),()))),()))):=by
    have key:∀ (d i:Nat),i + d=s.length→(∀ (m:Nat) (y:UInt8),m < i→s[m]? = some y→isNul y=false)→(∃ (j:Nat) (x:UInt8),s[j]? = some x∧isNul x=true∧(∀ (m:Nat) (y:UInt8),m < j→s[m]? = some y→isNul y=false)∧Loop (P_ref12_text_L0 (s,())) ((([]:List UInt8),(false,((i:Int),()))),())=(obind (Loop (P_ref12_text_L1 (s,())) ((([]:List UInt8),(false,((j:Int),()))),())) fun y3=>some (if y3.1=0 then (1,((s.take j,(true,((j:Int),()))),())) else (1,((y3.2.1.1,(y3.2.1.2.1,((j:Int),()))),()))))) ∨
      ((∀ (m:Nat) (y:UInt8),s[m]? = some y→isNul y=false)∧Loop (P_ref12_text_L0 (s,())) ((([]:List UInt8),(false,((i:Int),()))),())=some (0,((([]:List UInt8),(false,((s.length:Int),()))),()))):=by
      intro d
      induction d with
      | zero =>
        intro i hi hb
        obtain rfl:i=s.length:=by omega
        refine .inr ⟨fun m y hy=>hb m y (getElem?_lt hy) hy,?_⟩
        have hz:P_ref12_text_L0 (s,()) ((([]:List UInt8),(false,((s.length:Int),()))),())=some (.inr (0,((([]:List UInt8),(false,((s.length:Int),()))),()))):=by
          unfold P_ref12_text_L0
          dsimp only
          rw [ltI_len_end,sel_false]
        rw [Loop_eq,hz];rfl
      | succ d ih =>
        intro i hi hb
        have hx:s[i]? = some s[i]:=List.getElem?_eq_getElem (by omega)
        cases hn:isNul s[i] with
        | true =>
          refine .inl ⟨i,s[i],hx,hn,hb,?_⟩
          have hsome:∃ z,Loop (P_ref12_text_L1 (s,())) ((([]:List UInt8),(false,((i:Int),()))),())=some z∧(z.1=0∨z.1=1):=by
            rcases inner i (by omega) with ⟨j,x,_,_,_,_,h⟩ | ⟨_,h⟩
            · exact ⟨_,h,.inr rfl⟩
            · exact ⟨_,h,.inl rfl⟩
          obtain ⟨z,hz,hc⟩:=hsome
          have hin:inside (0:Int) (i:Int) (len s)=true:=inside_len (a:=0) (Nat.zero_le _) (by omega)
          have hz2:P_ref12_text_L0 (s,()) ((([]:List UInt8),(false,((i:Int),()))),())=some (.inr (if z.1=0 then (1,((s.take i,(true,((i:Int),()))),())) else (1,((z.2.1.1,(z.2.1.2.1,((i:Int),()))),())))):=by
            unfold P_ref12_text_L0
            dsimp only
            rw [ltI_len_true (show i < s.length by omega),sel_true,idx_some' hx,obind_some,e0,hn,sel_true,hz,obind_some]
            rcases hc with c | c
            · rw [c,eqN_zero,sel_true,hin,sel_true,sub_take,if_pos rfl]
            · rw [c,eqN_one,sel_false,if_neg (by decide)]
          rw [hz,obind_some,Loop_eq,hz2];rfl
        | false =>
          have hz2:P_ref12_text_L0 (s,()) ((([]:List UInt8),(false,((i:Int),()))),())=some (.inl ((([]:List UInt8),(false,(((i + 1:Nat):Int),()))),())):=by
            unfold P_ref12_text_L0
            dsimp only
            rw [ltI_len_true (show i < s.length by omega),sel_true,idx_some' hx,obind_some,e0,hn,sel_false,iadd_one (by omega)]
          rw [Loop_eq,hz2]
          exact ih (i + 1) (by omega) (fun m y hm hy=>by
            by_cases e:m=i
            · subst e;rw [hx] at hy;rw [← Option.some.inj hy];exact hn
            · exact hb m y (by omega) hy)
    exact key s.length 0 (by omega) (fun m y hm=>absurd hm (by omega))
  rcases outer with ⟨i,x,hx,hn,hb,hL⟩ | ⟨hall,hL⟩
  · rw [hL]
    have hi:=getElem?_lt hx
    rcases inner i (by omega) with ⟨j,y,hj,hy,hq,_,h⟩ | ⟨ha,h⟩
    · rw [show Loop (P_ref12_text_L1 (s,())) ((([]:List UInt8),(false,((i:Int),()))),())=_ from h,obind_some,obind_some,if_neg (show ¬ (1:Nat)=0 by decide),eqN_one,sel_false]
      refine ⟨[],false,rfl,?_,fun q=>(by cases q),by simp⟩
      obtain ⟨r1,r2⟩:=rtrim_at (p:=isNul) hy (by simpa using hq)
      have:¬ noNul (rtrim isNul s):=fun q=>by
        have hm:x ∈ rtrim isNul s:=mem_at.2 ⟨i,by rw [r2 i hj,hx]⟩
        exact q x hm ((isNul_iff x).1 hn)
      rw [decide_eq_false this]
    · rw [show Loop (P_ref12_text_L1 (s,())) ((([]:List UInt8),(false,((i:Int),()))),())=_ from h,obind_some,obind_some,if_pos rfl,eqN_one,sel_false]
      have hrt:rtrim isNul s=s.take i:=rtrim_take (fun m y hm hy=>by simpa using ha m y hm hy) (fun m y hm hy=>hb m y hm hy)
      refine ⟨_,true,rfl,?_,fun _=>hrt.symm,by dsimp only;rw [List.length_take];omega⟩
      have:noNul (rtrim isNul s):=fun y hy=>by
        rw [hrt] at hy
        obtain ⟨m,hm⟩:=mem_at.1 hy
        have hml:=getElem?_lt hm
        rw [List.length_take] at hml
        rw [List.getElem?_take_of_lt (by omega)] at hm
        intro e
        have:=hb m y (by omega) hm
        rw [(isNul_iff y).2 e] at this;cases this
      rw [decide_eq_true this]
  · rw [hL,obind_some,eqN_zero,sel_true]
    have hrt:rtrim isNul s=s:=by
      have:=rtrim_take (p:=isNul) (s:=s) (j:=s.length) (fun m y hm hy=>by have:=getElem?_lt hy;omega) (fun m y hm hy=>hall m y hy)
      rw [this,List.take_length]
    refine ⟨s,true,rfl,?_,fun _=>hrt.symm,Nat.le_refl _⟩
    have:noNul (rtrim isNul s):=fun y hy e=>by
      rw [hrt] at hy
      obtain ⟨m,hm⟩:=mem_at.1 hy
      have:=hall m y hm
      rw [(isNul_iff y).2 e] at this;cases this
    rw [decide_eq_true this]
end Go.Ge

/- What any block is taken as, and any bytes are read as: the code's answer and the reference's are one: in plain words. -/
namespace Go.Ge
set_option linter.unusedVariables false
set_option linter.unusedSimpArgs false

theorem sub_fld (b:List UInt8) (hb:b.length=512) (a e:Nat) (h:a≤e) (he:e≤512):inside (a:Int) (e:Int) (len b)=true∧sub b (a:Int) (minus (e:Int) (a:Int))=fld b a (e - a):=by
 refine ⟨inside_len h (by omega),?_⟩
 unfold sub minus fld
 rw [Int.toNat_natCast,show ((e:Int) - (a:Int)).toNat=e - a by omega]

theorem fin_same (p q r:Bool) (H H':Hd) (hH:p=true→q=true→r=true→H'=H) (h1:H'.1.length≤1048576) (h2:H'.2.2.2.2.2.2.2.1.length≤1048576) :
    obind (sel (nt (sel (nt (sel (nt (nt p)) (nt q) true)) (nt r) true)) (obind (P_ref12_may (H',((256:Int),()))) (fun (y13:Bool×Unit)=>some (nt y13.1))) (some true)) (fun (y13:Bool)=>sel y13 (some (noHd,((2:Int),()))) (some (H',((0:Int),())))) =
    obind (sel (nt (sel (nt (sel (nt (nt p)) (nt q) true)) (nt r) true)) (obind (P_header_is (H,((256:Int),()))) (fun (y21:Bool×Unit)=>some (nt y21.1))) (some true)) (fun (y21:Bool)=>sel y21 (some (noHd,((2:Int),()))) (some (H,((0:Int),())))):=by
  rw [may_val H' 256 h1 h2,is_val12,obind_some,obind_some]
  cases p with
  | false=>rfl
  | true =>
    cases q with
    | false=>rfl
    | true =>
      cases r with
      | false=>rfl
      | true=>rw [hH rfl rfl rfl]

theorem take_same (b:List UInt8) (hb:b.length=512):P_ref12_Take (b,())=P_header_Take (b,()):=by
 obtain ⟨n6,h6⟩:=number_total (fld b 148 8) (by have:=fld_length b 148 8;omega)
 have r6:=number_same (fld b 148 8) (by have:=fld_length b 148 8;omega)
 obtain ⟨i9,s9⟩:=sub_fld b hb 257 265 (by omega) (by omega)
 obtain ⟨i6,s6⟩:=sub_fld b hb 148 156 (by omega) (by omega)
 have hl:eqI (len b) 512=true:=eqI_true (by simp only [len];omega)
 by_cases hm:fld b 257 8=magic
 case neg =>
  rw [take_other b hb hm]
  unfold P_ref12_Take
  dsimp only
  rw [hl,nt_true,nt_false,sel_true,show inside (257:Int) (265:Int) (len b)=true from i9,sel_true,show sub b (257:Int) (minus (265:Int) (257:Int))=fld b 257 8 from s9,show ([117,115,116,97,114,0,48,48]:List UInt8)=magic from rfl,show eqS (fld b 257 8) magic=false from decide_eq_false hm,nt_false,obind_some,nt_true,sel_false,obind_some,sel_true]
  rfl
 by_cases hs:n6=(sumTo b 512:Int)
 case neg =>
  rw [take_bad b hb h6 hs]
  unfold P_ref12_Take
  dsimp only
  rw [hl,nt_true,nt_false,sel_true,show inside (257:Int) (265:Int) (len b)=true from i9,sel_true,show sub b (257:Int) (minus (265:Int) (257:Int))=fld b 257 8 from s9,show ([117,115,116,97,114,0,48,48]:List UInt8)=magic from rfl,hm,show eqS magic magic=true from eqS_self _,nt_true,obind_some,nt_false,sel_true,show inside (148:Int) (156:Int) (len b)=true from i6,sel_true,show sub b (148:Int) (minus (156:Int) (148:Int))=fld b 148 8 from s6,r6,h6,obind_some,refSum_val12 b (by omega),obind_some]
  dsimp only
  rw [hb,eqI_false hs,nt_false,obind_some,sel_true]
  rfl
 obtain ⟨n1,h1⟩:=number_total (fld b 100 8) (by have:=fld_length b 100 8;omega)
 obtain ⟨n2,h2⟩:=number_total (fld b 108 8) (by have:=fld_length b 108 8;omega)
 obtain ⟨n3,h3⟩:=number_total (fld b 116 8) (by have:=fld_length b 116 8;omega)
 obtain ⟨n4,h4⟩:=number_total (fld b 124 12) (by have:=fld_length b 124 12;omega)
 obtain ⟨n5,h5⟩:=number_total (fld b 136 12) (by have:=fld_length b 136 12;omega)
 have r1:=(number_same (fld b 100 8) (by have:=fld_length b 100 8;omega)).trans h1
 have r2:=(number_same (fld b 108 8) (by have:=fld_length b 108 8;omega)).trans h2
 have r3:=(number_same (fld b 116 8) (by have:=fld_length b 116 8;omega)).trans h3
 have r4:=(number_same (fld b 124 12) (by have:=fld_length b 124 12;omega)).trans h4
 have r5:=(number_same (fld b 136 12) (by have:=fld_length b 136 12;omega)).trans h5
 have m0:=fld_length b 0 100
 have m8:=fld_length b 157 100
 have m10:=fld_length b 345 155
 obtain ⟨t0,k0,ra0,rb0,rc0,rd0⟩:=text_same (fld b 0 100) (by omega)
 obtain ⟨t8,k8,ra8,rb8,rc8,rd8⟩:=text_same (fld b 157 100) (by omega)
 obtain ⟨t10,k10,ra10,rb10,rc10,rd10⟩:=text_same (fld b 345 155) (by omega)
 have l0:=rtrim_length isNul (fld b 0 100)
 have l10:=rtrim_length isNul (fld b 345 155)
 obtain ⟨i0,s0⟩:=sub_fld b hb 0 100 (by omega) (by omega)
 obtain ⟨i8,s8⟩:=sub_fld b hb 157 257 (by omega) (by omega)
 obtain ⟨i10,s10⟩:=sub_fld b hb 345 500 (by omega) (by omega)
 obtain ⟨i1,s1⟩:=sub_fld b hb 100 108 (by omega) (by omega)
 obtain ⟨i2,s2⟩:=sub_fld b hb 108 116 (by omega) (by omega)
 obtain ⟨i3,s3⟩:=sub_fld b hb 116 124 (by omega) (by omega)
 obtain ⟨i4,s4⟩:=sub_fld b hb 124 136 (by omega) (by omega)
 obtain ⟨i5,s5⟩:=sub_fld b hb 136 148 (by omega) (by omega)
 obtain ⟨c,hk,f7⟩:∃ c,b[156]? = some c∧fld b 156 1=[c]:=by
  refine ⟨b[156],List.getElem?_eq_getElem (by omega),?_⟩
  unfold fld
  rw [List.drop_eq_getElem_cons (by omega)]
  rfl
 -- the code's
 unfold P_header_Take
 dsimp only
 rw [hl,nt_true,nt_false,sel_true,o9 b hb,obind_some,obind_some,show ([117,115,116,97,114,0,48,48]:List UInt8)=magic from rfl]
 dsimp only
 rw [hm,show eqS magic magic=true from eqS_self _,nt_true,nt_false,sel_true,o6 b hb,obind_some]
 dsimp only
 rw [h6,obind_some,sum_val12 b (by omega),obind_some]
 dsimp only
 rw [hb,eqI_true hs,nt_true,obind_some,sel_false,o0 b hb,obind_some]
 dsimp only
 rw [rb0,obind_some,o8 b hb,obind_some]
 dsimp only
 rw [rb8,obind_some,o10 b hb,obind_some]
 dsimp only
 rw [rb10,obind_some]
 dsimp only
 have hpre:(sel (nt (eqS (rtrim isNul (fld b 345 155)) [])) (sel (fits (plus (len (rtrim isNul (fld b 345 155))) (len ([47]:List UInt8)))) (sel (fits (plus (len (app (rtrim isNul (fld b 345 155)) [47])) (len (rtrim isNul (fld b 0 100)))))
   (some ((app (app (rtrim isNul (fld b 345 155)) [47]) (rtrim isNul (fld b 0 100)),()),())) none) none) (some ((rtrim isNul (fld b 0 100),()),())))=some ((if rtrim isNul (fld b 345 155)=[] then rtrim isNul (fld b 0 100) else rtrim isNul (fld b 345 155) ++ [47] ++ rtrim isNul (fld b 0 100),()),()):=by
  by_cases he:rtrim isNul (fld b 345 155)=[]
  ·rw [if_pos he,eqS_true he,nt_true,sel_false]
  ·rw [if_neg he,eqS_false he,nt_false,sel_true,fits_true (by simp only [plus,len,List.length_cons,List.length_nil];omega),sel_true,fits_true (by simp only [plus,len,app,List.length_append,List.length_cons,List.length_nil];omega),sel_true]
   rfl
 rw [hpre,obind_some,o1 b hb,obind_some]
 dsimp only
 rw [h1,obind_some,o2 b hb,obind_some]
 dsimp only
 rw [h2,obind_some,o3 b hb,obind_some]
 dsimp only
 rw [h3,obind_some,o4 b hb,obind_some]
 dsimp only
 rw [h4,obind_some,o5 b hb,obind_some]
 dsimp only
 rw [h5,obind_some,o7 b hb,obind_some,f7]
 -- the reference's
 unfold P_ref12_Take
 dsimp only
 rw [hl,nt_true,nt_false,sel_true,show inside (257:Int) (265:Int) (len b)=true from i9,sel_true,show sub b (257:Int) (minus (265:Int) (257:Int))=fld b 257 8 from s9,show ([117,115,116,97,114,0,48,48]:List UInt8)=magic from rfl,hm,show eqS magic magic=true from eqS_self _,nt_true,obind_some,nt_false,sel_true,show inside (148:Int) (156:Int) (len b)=true from i6,sel_true,show sub b (148:Int) (minus (156:Int) (148:Int))=fld b 148 8 from s6,r6,h6,obind_some,refSum_val12 b (by omega),obind_some]
 dsimp only
 rw [hb,eqI_true hs,nt_true,obind_some,sel_false]
 rw [show inside (0:Int) (100:Int) (len b)=true from i0,sel_true,show sub b (0:Int) (minus (100:Int) (0:Int))=fld b 0 100 from s0,ra0,obind_some]
 rw [show inside (157:Int) (257:Int) (len b)=true from i8,sel_true,show sub b (157:Int) (minus (257:Int) (157:Int))=fld b 157 100 from s8,ra8,obind_some]
 rw [show inside (345:Int) (500:Int) (len b)=true from i10,sel_true,show sub b (345:Int) (minus (500:Int) (345:Int))=fld b 345 155 from s10,ra10,obind_some]
 rw [show inside (100:Int) (108:Int) (len b)=true from i1,sel_true,show sub b (100:Int) (minus (108:Int) (100:Int))=fld b 100 8 from s1,r1,obind_some]
 rw [show inside (108:Int) (116:Int) (len b)=true from i2,sel_true,show sub b (108:Int) (minus (116:Int) (108:Int))=fld b 108 8 from s2,r2,obind_some]
 rw [show inside (116:Int) (124:Int) (len b)=true from i3,sel_true,show sub b (116:Int) (minus (124:Int) (116:Int))=fld b 116 8 from s3,r3,obind_some]
 rw [show inside (124:Int) (136:Int) (len b)=true from i4,sel_true,show sub b (124:Int) (minus (136:Int) (124:Int))=fld b 124 12 from s4,r4,obind_some]
 rw [show inside (136:Int) (148:Int) (len b)=true from i5,sel_true,show sub b (136:Int) (minus (148:Int) (136:Int))=fld b 136 12 from s5,r5,obind_some]
 dsimp only
 have hpre2:∀ (x:Int×Int×Int×Int×Int×Int×List UInt8×Unit),(sel (nt (eqS t10 [])) (sel (fits (plus (len t10) (len ([47]:List UInt8)))) (sel (fits (plus (len (app t10 [47])) (len t0)))
   (some ((),((app (app t10 [47]) t0,x),()))) none) none) (some ((),((t0,x),()))))=some ((),((if t10=[] then t0 else t10 ++ [47] ++ t0,x),())):=fun x=>by
  by_cases he:t10=[]
  ·rw [if_pos he,eqS_true he,nt_true,sel_false]
  ·rw [if_neg he,eqS_false he,nt_false,sel_true,fits_true (by simp only [plus,len,List.length_cons,List.length_nil];omega),sel_true,fits_true (by simp only [plus,len,app,List.length_append,List.length_cons,List.length_nil];omega),sel_true]
   rfl
 rw [hpre2,obind_some,show idx b (156:Int)=some c from idx_some' (i:=156) hk,obind_some]
 have c48:eqS [c] [48]=decide (c=48):=decide_eq_decide.2 (by simp)
 have c0:eqS [c] [0]=decide (c=0):=decide_eq_decide.2 (by simp)
 have c53:eqS [c] [53]=decide (c=53):=decide_eq_decide.2 (by simp)
 have c50:eqS [c] [50]=decide (c=50):=decide_eq_decide.2 (by simp)
 have d48:eqI (u8 c) 48=decide (c=48):=u8_eq (n:=48)
 have d0:eqI (u8 c) 0=decide (c=0):=u8_eq (n:=0)
 have d53:eqI (u8 c) 53=decide (c=53):=u8_eq (n:=53)
 have d50:eqI (u8 c) 50=decide (c=50):=u8_eq (n:=50)
 rw [c48,c0,c53,c50,d48,d0,d53,d50]
 have hplen:(if t10=[] then t0 else t10 ++ [47] ++ t0).length≤1048576:=by
  split
  ·omega
  ·simp only [List.length_append,List.length_cons,List.length_nil];omega
 refine fin_same k0 k8 k10 _ _ (fun a0 a8 a10=>?_) ?_ ?_
 ·rw [rc0 a0,rc8 a8,rc10 a10]
  all_goals cases decide (c=48) <;> cases decide (c=0) <;> cases decide (c=53) <;> cases decide (c=50) <;> rfl
 ·cases decide (c=48) <;> cases decide (c=0) <;> cases decide (c=53) <;> cases decide (c=50) <;> exact hplen
 ·have h8:t8.length≤1048576:=by omega
  have hn:([]:List UInt8).length≤1048576:=by simp
  cases decide (c=48) <;> cases decide (c=0) <;> cases decide (c=53) <;> cases decide (c=50) <;> first | exact hn | exact h8
end Go.Ge

/- Diffs laid on trees: the steps of entries: in plain words. -/
namespace Go.Ge
set_option linter.unusedVariables false
set_option linter.unusedSimpArgs false

abbrev Stp:=((List UInt8×Unit) ⊕ ((List UInt8×Unit) ⊕ (Unit ⊕ ((Nd×Unit) ⊕ Unit))))
def stepW (p:Pt) (w:Int×List (List UInt8)×Bool):Stp :=
 if w.1=1 then .inl (joinS w.2.1,()) else if w.1=2 then .inr (.inl (joinS w.2.1,())) else if w.2.1=[] then .inr (.inr (.inl ())) else .inr (.inr (.inr (.inl (nodeOf p (joinS w.2.1),()))))
def stepN (p:Pt):Stp:=stepW p (whatN p)

theorem emptyB_sel (p:Pt) (A:Option Bool):(sel (sel (eqI p.1.2.1 1) (eqS p.2.1 []) false) A (some false))=if emptyB p=true then A else some false:=by
 unfold emptyB eqI eqS
 by_cases h1:p.1.2.1=1
 ·by_cases h2:p.2.1=[]
  ·simp [h1,h2,sel]
  ·simp [h1,h2,sel]
 ·simp [h1,sel]

theorem goneNs_ne (ns:List (List UInt8)):goneNs ns ≠ []:=by unfold goneNs;simp

theorem what_val (p:Pt) (hp:SmP p):∃ s,P_overlay_what (p,())=some (s,((whatN p).2.2,()))∧((whatN p).2.2=true→s=stepN p):=by
  unfold P_overlay_what
  dsimp only
  rw [clean_val p.1.1 (by have:=hp.1;omega),obind_some]
  dsimp only
  unfold stepN
  cases hc:cleanOk p.1.1 with
  | false =>
    have:cleanF p.1.1=([],2):=by unfold cleanF;rw [hc];rfl
    have hw:whatN p=(0,([],false)):=by unfold whatN;rw [hc,if_neg (by simp)]
    rw [this,hw]
    exact ⟨_,rfl,fun h=>by cases h⟩
  | true =>
    have hcf:cleanF p.1.1=(joinS (names p.1.1),0):=by unfold cleanF;rw [hc];rfl
    have hsh:=clean_sh hc
    have h96:=(clean_names hc).2.2
    have hl96:=clean_last hc
    rw [hcf]
    dsimp only
    rw [show nt (eqI 0 0)=false from rfl,sel_false,psplit_val _ (by omega),obind_some,split_clean hsh.1]
    dsimp only
    rw [mark_val,obind_some]
    dsimp only
    rcases mark_cases ((names p.1.1).getLastD []) with hm | hm | hm | hm
    · have hw:whatN p=(0,(names p.1.1,(decide (names p.1.1=[]) && decide (p.1.2.1=2)) || (mayF (nodeOf p (joinS (names p.1.1))) && pathB (names p.1.1)))):=by
        unfold whatN;rw [hc,if_pos rfl];dsimp only;rw [hm,if_neg (by decide),if_neg (by decide),if_pos rfl]
      rw [hw,hm,show eqI 0 1=false from rfl,sel_false,show eqI 0 2=false from rfl,sel_false,show eqI 0 3=false from rfl,sel_false]
      unfold stepW
      dsimp only
      rw [if_neg (by decide),if_neg (by decide)]
      have hmt:=joinS_nil hsh.1
      by_cases hns:names p.1.1=[]
      · have hj:joinS (names p.1.1)=[]:=hmt.2 hns
        rw [decide_eq_true hns,eqS_true hj,sel_true,if_pos hns]
        by_cases hk:p.1.2.1=2
        · rw [eqI_true hk,decide_eq_true hk,sel_true]
          exact ⟨_,rfl,fun _=>rfl⟩
        · rw [eqI_false hk,decide_eq_false hk,sel_false]
          have:=isNode_nil (n:=nodeOf p (joinS (names p.1.1))) hj
          rw [show P_overlay_isNode ((joinS (names p.1.1),(p.1.2.1,(p.1.2.2.1,(p.2.1,(p.1.2.2.2.2.2.2.2.1,()))))),())=_ from this,obind_some]
          have hpb:pathB (names p.1.1)=false:=by unfold pathB;rw [hns];rfl
          rw [hpb]
          simp only [Bool.and_false,Bool.or_false]
          exact ⟨_,rfl,fun h=>by cases h⟩
      · have hj:joinS (names p.1.1) ≠ []:=fun e=>hns (hmt.1 e)
        rw [decide_eq_false hns,eqS_false hj,sel_false,sel_false,if_neg hns]
        have hs:Sm (nodeOf p (joinS (names p.1.1))):=⟨by show (joinS (names p.1.1)).length≤200;omega,hp.2.1,hp.2.2⟩
        have:=isNode_val hsh hns (n:=nodeOf p (joinS (names p.1.1))) rfl hs
        rw [node_path hns rfl] at this
        rw [show P_overlay_isNode ((joinS (names p.1.1),(p.1.2.1,(p.1.2.2.1,(p.2.1,(p.1.2.2.2.2.2.2.2.1,()))))),())=_ from this,obind_some]
        simp only [Bool.false_and,Bool.false_or]
        exact ⟨_,rfl,fun _=>rfl⟩
    · obtain ⟨g1,g2⟩:=gone_join hc hm
      have hw:whatN p=(1,(goneNs (names p.1.1),emptyB p && pathB (goneNs (names p.1.1)))):=by
        unfold whatN;rw [hc,if_pos rfl];dsimp only;rw [hm,if_pos rfl]
      rw [hw,hm,show eqI 1 1=true from rfl,sel_true,pjoin_val _ _ (by have:=(drop_sh hsh).2.2;omega) (by rw [(mark_one hm).1,List.length_drop];omega),obind_some,g1]
      dsimp only
      rw [isDir_val g2,obind_some,emptyB_sel,decide_eq_false (goneNs_ne _),Bool.false_or]
      refine ⟨.inl (joinS (goneNs (names p.1.1)),()),?_,fun _=>rfl⟩
      cases emptyB p <;> rfl
    · have hd:=drop_sh hsh
      have hw:whatN p=(2,((names p.1.1).dropLast,emptyB p && (decide ((names p.1.1).dropLast=[]) || pathB (names p.1.1).dropLast))):=by
        unfold whatN;rw [hc,if_pos rfl];dsimp only;rw [hm,if_neg (by decide),if_pos rfl]
      rw [hw,hm,show eqI 2 1=false from rfl,sel_false,show eqI 2 2=true from rfl,sel_true]
      rw [isDir_val hd,obind_some,emptyB_sel]
      refine ⟨.inr (.inl (joinS (names p.1.1).dropLast,())),?_,fun _=>rfl⟩
      cases emptyB p <;> rfl
    · have hw:whatN p=(0,([],false)):=by
        unfold whatN;rw [hc,if_pos rfl];dsimp only;rw [hm,if_neg (by decide),if_neg (by decide),if_neg (by decide)]
      rw [hw,hm,show eqI 3 1=false from rfl,sel_false,show eqI 3 2=false from rfl,sel_false,show eqI 3 3=true from rfl,sel_true]
      exact ⟨_,rfl,fun h=>by cases h⟩

def allOk (l:List Pt):Bool:=l.all fun p=>(whatN p).2.2
def SmPs (l:List Pt):Prop:=l.length≤10000∧∀ p ∈ l,SmP p

theorem all_of {l:List Pt}:(∀ (i:Nat) (x:Pt),l[i]? = some x→(!(whatN x).2.2)=false)→allOk l=true:=fun h=>by
 unfold allOk
 rw [List.all_eq_true]
 intro x hx
 obtain ⟨i,hi⟩:=mem_at.1 hx
 have:=h i x hi
 simpa using this
theorem all_not {l:List Pt} {i:Nat} {x:Pt} (hx:l[i]? = some x) (h:(!(whatN x).2.2)=true):allOk l=false:=by
 unfold allOk
 rw [List.all_eq_false]
 exact ⟨x,List.mem_of_getElem? hx,by simpa using h⟩

theorem steps_val (l:List Pt) (hl:SmPs l):P_overlay_steps (l,())=some (if allOk l=true then (l.map stepN,(true,())) else ([],(false,()))):=by
  unfold P_overlay_steps
  have h1:=hl.1
  rcases srch (f:=P_overlay_steps_L0 (l,())) l (fun i=>((([]:List Stp),(false,((),(i,())))),((l.take i.toNat).map stepN,()))) (fun _ x=>!(whatN x).2.2) (fun i _=>(1,((([]:List Stp),(false,((),((i:Int),())))),((l.take i).map stepN,())))) (0,((([]:List Stp),(false,((),((l.length:Int),())))),(l.map stepN,()))) (by omega) (fun i x hx hi hadd=>by
      obtain ⟨s,e1,e2⟩:=what_val x (hl.2 x (List.mem_of_getElem? hx))
      unfold P_overlay_steps_L0
      dsimp only
      rw [ltI_len_true hi,sel_true,idx_some' hx,obind_some,e1,obind_some,hadd]
      dsimp only
      rw [Int.toNat_natCast,Int.toNat_natCast]
      have hlen:((l.take i).map stepN).length≤10000:=by rw [List.length_map,List.length_take];omega
      cases hw:(whatN x).2.2 with
      | false=>rfl
      | true =>
        rw [nt_true,sel_false,fits_len2 (by simp only [List.length_cons,List.length_nil];omega),sel_true,e2 hw]
        have:(l.take (i + 1)).map stepN=(l.take i).map stepN ++ [stepN x]:=by rw [List.take_add_one,hx,List.map_append];rfl
        rw [this];rfl) (by
      unfold P_overlay_steps_L0
      dsimp only
      rw [ltI_len_end,sel_false,Int.toNat_natCast,List.take_length]) with ⟨i,x,hx,hp,_,h⟩ | ⟨hn,h⟩
  · rw [show Loop (P_overlay_steps_L0 (l,())) ((([]:List Stp),(false,((),((0:Int),())))),(([]:List Stp),()))=_ from h,obind_some,all_not hx hp]
    rfl
  · rw [show Loop (P_overlay_steps_L0 (l,())) ((([]:List Stp),(false,((),((0:Int),())))),(([]:List Stp),()))=_ from h,obind_some,all_of hn]
    rfl

theorem refClean15_val (l:List Pt) (hl:SmPs l):P_ref15_Clean (l,())=some (allOk l,()):=by
 unfold P_ref15_Clean
 have h1:=hl.1
 rcases srch (f:=P_ref15_Clean_L0 (l,())) l (fun i=>((false,(i,())),())) (fun _ x=>!(whatN x).2.2) (fun i _=>(1,((false,((i:Int),())),()))) (0,((false,((l.length:Int),())),())) (by omega) (fun i x hx hi hadd=>by
   unfold P_ref15_Clean_L0
   dsimp only
   rw [ltI_len_true hi,sel_true,idx_some' hx,obind_some,refWhat_val x (hl.2 x (List.mem_of_getElem? hx)),obind_some,hadd]
   dsimp only
   cases (whatN x).2.2 <;> rfl) (by
   unfold P_ref15_Clean_L0
   dsimp only
   rw [ltI_len_end,sel_false]) with ⟨i,x,hx,hp,_,h⟩ | ⟨hn,h⟩
 ·rw [h,obind_some,all_not hx hp];rfl
 ·rw [h,obind_some,all_of hn];rfl
end Go.Ge

/- The law TreeIs: in plain words. -/
namespace Go.Ge
set_option linter.unusedVariables false
set_option linter.unusedSimpArgs false

/-! ### What goes -/
theorem gone_take {l:List Nd} {g:Nd→Bool} {i:Nat} {x:Nd} (hx:l[i]? = some x) (hg:g x=true) (hb:∀ (j:Nat) y,j < i→l[j]? = some y→g y=false):l.take i=(l.take (i + 1)).filter (fun x=>!g x):=by
 rw [List.take_add_one,hx,List.filter_append]
 have h1:(l.take i).filter (fun x=>!g x)=l.take i:=List.filter_eq_self.2 fun y hy=>by
  obtain ⟨j,hj⟩:=mem_at.1 hy
  rw [List.getElem?_take] at hj
  split at hj
  ·rw [hb j y (by omega) hj];rfl
  ·cases hj
 rw [h1]
 simp [hg]

theorem rem_loop0 (l:List Nd) (p:List UInt8) (hl:SmL l) (hp:p.length≤4096):(∃ i x,l[i]? = some x∧gone p x=true∧(∀ (j:Nat) y,j < i→l[j]? = some y→gone p y=false)∧Loop (P_tree_Remove_L0 (l,(p,()))) ((0,(0,())),((),(p,())))=some (1,(((i:Int),((i:Int),())),((),(p,()))))) ∨
  ((∀ (i:Nat) x,l[i]? = some x→gone p x=false)∧Loop (P_tree_Remove_L0 (l,(p,()))) ((0,(0,())),((),(p,())))=some (0,((0,((l.length:Int),())),((),(p,()))))) :=
 srch (f:=P_tree_Remove_L0 (l,(p,()))) l (fun i=>((0,(i,())),((),(p,())))) (fun _ x=>gone p x) (fun i x=>(1,(((i:Int),((i:Int),())),((),(p,()))))) (0,((0,((l.length:Int),())),((),(p,())))) (by have:=hl.1;omega) (fun i x hx hi ha=>by
   unfold P_tree_Remove_L0
   dsimp only
   rw [ltI_len_true hi,sel_true,within_true (by omega) (by unfold len;omega),sel_true,idx_some' hx,obind_some,under_val _ _ (by have:=(hl.at hx).1;omega) hp,obind_some,eqS_iff,ha]
   unfold gone
   cases decide (x.1=p) <;> cases underL (parts x.1) (parts p) <;> rfl) (by unfold P_tree_Remove_L0;dsimp only;rw [ltI_len_end,sel_false])

theorem rem_loop2 (l:List Nd) (p:List UInt8) (hl:SmL l) (hp:p.length≤4096) (i:Nat) (x:Nd) (hx:l[i]? = some x) (hg:gone p x=true) (hb:∀ (j:Nat) y,j < i→l[j]? = some y→gone p y=false) :
    ∃ (w:Nat) (L:List Nd),Loop (P_tree_Remove_L2) (((i:Int),(iadd IntKind.i64 (i:Int) 1,((),()))),((),(p,(l,()))))=some (((w:Int),((l.length:Int),((),()))),((),(p,(L,()))))∧L.length=l.length∧w≤l.length∧L.take w=restF l p:=by
  have hi:=getElem?_lt hx
  have h4:=hl.1
  obtain ⟨w,L,h1,h2,h3,h5⟩:=del_loop (f:=P_tree_Remove_L2) l (gone p) (fun w j L=>((w,(j,((),()))),((),(p,(L,()))))) (fun w L=>((w,((L.length:Int),((),()))),((),(p,(L,()))))) (by omega) (fun w j L x hx hxL hw hj ha hb=>by
      unfold P_tree_Remove_L2
      dsimp only
      have hwL:w < L.length:=by omega
      obtain ⟨z,hz⟩:∃ z,L[w]? = some z:=⟨_,List.getElem?_eq_getElem hwL⟩
      have hgv:sel (nt (eqS x.1 p)) (obind (P_paths_Under (x.1,(p,()))) (fun (y:Bool×Unit)=>some y.1)) (some true)=some (gone p x):=by
        rw [under_val _ _ (by have:=(hl.at hx).1;omega) hp,obind_some,eqS_iff]
        unfold gone
        cases decide (x.1=p) <;> rfl
      rw [ltI_len_true hj,sel_true,within_true (by omega) (by unfold len;omega),sel_true,idx_some' hxL,obind_some,hgv,obind_some,hb]
      cases gone p x with
      | true=>rfl
      | false =>
        rw [nt_false,sel_true,within_true (by omega) (by unfold len;omega),sel_true,idx_some' hz,obind_some,obind_some,obind_some,obind_some,ha,lset_nat]
        rfl) (fun w L=>by
      unfold P_tree_Remove_L2
      dsimp only
      rw [ltI_len_end,sel_false]
      rfl) l.length i (i + 1) l (by omega) (by omega) (by omega) rfl (gone_take hx hg hb) rfl
  refine ⟨w,L,?_,h2,h3,h5⟩
  rw [iadd_one (by omega),h1,h2]

theorem remove_val (l:List Nd) (p:List UInt8) (hl:SmL l) (hp:p.length≤4096) (hv:Valid l):P_tree_Remove (l,(p,()))=some (restF l p,()):=by
 obtain ⟨e,c1,c2⟩:=check_val' l hl
 obtain rfl:=c2.2 hv
 unfold P_tree_Remove
 dsimp only
 rw [c1,obind_some]
 dsimp only
 rw [show nt (eqI 0 0)=false by rfl,sel_false,fits_len (by have:=hl.1;omega),sel_true]
 rcases rem_loop0 l p hl hp with ⟨i,x,hx,hg,hb,h⟩ | ⟨hb,h⟩
 ·obtain ⟨w,L,w1,w2,w3,w4⟩:=rem_loop2 l p hl hp i x hx hg hb
  rw [h,obind_some]
  dsimp only
  rw [eqN_one,sel_false,show eqI (i:Int) (-1)=false by unfold eqI;exact decide_eq_false (by omega),sel_false,w1,obind_some]
  dsimp only
  rw [inside_true (by omega) (by unfold len;omega) (Int.le_refl _),sel_true,len_over L w (by omega),inside_true (Int.le_refl _) (by omega) (by omega),sel_true,sub_over L w (by omega),w4]
 ·have hr:restF l p=l:=List.filter_eq_self.2 fun x hx=>by
   obtain ⟨j,hj⟩:=mem_at.1 hx
   rw [hb j x hj];rfl
  rw [h,obind_some,hr]
  dsimp only
  rw [eqN_zero,sel_true,show eqI (-1) (-1)=true by rfl,sel_true]

/-! ### What lies under -/
def undF (p:List UInt8) (x:Nd):Bool:=underL (parts x.1) (parts p)

theorem emp_loop0 (l:List Nd) (p:List UInt8) (hl:SmL l) (hp:p.length≤4096):(∃ i x,l[i]? = some x∧undF p x=true∧(∀ (j:Nat) y,j < i→l[j]? = some y→undF p y=false)∧Loop (P_tree_Empty_L0 (l,(p,()))) ((0,(0,())),((),(p,())))=some (1,(((i:Int),((i:Int),())),((),(p,()))))) ∨
  ((∀ (i:Nat) x,l[i]? = some x→undF p x=false)∧Loop (P_tree_Empty_L0 (l,(p,()))) ((0,(0,())),((),(p,())))=some (0,((0,((l.length:Int),())),((),(p,()))))) :=
 srch (f:=P_tree_Empty_L0 (l,(p,()))) l (fun i=>((0,(i,())),((),(p,())))) (fun _ x=>undF p x) (fun i x=>(1,(((i:Int),((i:Int),())),((),(p,()))))) (0,((0,((l.length:Int),())),((),(p,())))) (by have:=hl.1;omega) (fun i x hx hi ha=>by
   unfold P_tree_Empty_L0
   dsimp only
   rw [ltI_len_true hi,sel_true,within_true (by omega) (by unfold len;omega),sel_true,idx_some' hx,obind_some,under_val _ _ (by have:=(hl.at hx).1;omega) hp,obind_some,ha]
   unfold undF
   cases underL (parts x.1) (parts p) <;> rfl) (by unfold P_tree_Empty_L0;dsimp only;rw [ltI_len_end,sel_false])

theorem emp_loop2 (l:List Nd) (p:List UInt8) (hl:SmL l) (hp:p.length≤4096) (i:Nat) (x:Nd) (hx:l[i]? = some x) (hg:undF p x=true) (hb:∀ (j:Nat) y,j < i→l[j]? = some y→undF p y=false) :
    ∃ (w:Nat) (L:List Nd),Loop (P_tree_Empty_L2) (((i:Int),(iadd IntKind.i64 (i:Int) 1,((),()))),((),(p,(l,()))))=some (((w:Int),((l.length:Int),((),()))),((),(p,(L,()))))∧L.length=l.length∧w≤l.length∧L.take w=l.filter (fun x=>!undF p x):=by
  have hi:=getElem?_lt hx
  have h4:=hl.1
  obtain ⟨w,L,h1,h2,h3,h5⟩:=del_loop (f:=P_tree_Empty_L2) l (undF p) (fun w j L=>((w,(j,((),()))),((),(p,(L,()))))) (fun w L=>((w,((L.length:Int),((),()))),((),(p,(L,()))))) (by omega) (fun w j L x hx hxL hw hj ha hb=>by
      unfold P_tree_Empty_L2
      dsimp only
      have hwL:w < L.length:=by omega
      obtain ⟨z,hz⟩:∃ z,L[w]? = some z:=⟨_,List.getElem?_eq_getElem hwL⟩
      rw [ltI_len_true hj,sel_true,within_true (by omega) (by unfold len;omega),sel_true,idx_some' hxL,obind_some,under_val _ _ (by have:=(hl.at hx).1;omega) hp,obind_some,hb]
      unfold undF
      cases underL (parts x.1) (parts p) with
      | true=>rfl
      | false =>
        rw [nt_false,sel_true,within_true (by omega) (by unfold len;omega),sel_true,idx_some' hz,obind_some,obind_some,obind_some,obind_some,ha,lset_nat]
        rfl) (fun w L=>by
      unfold P_tree_Empty_L2
      dsimp only
      rw [ltI_len_end,sel_false]
      rfl) l.length i (i + 1) l (by omega) (by omega) (by omega) rfl (gone_take hx hg hb) rfl
  refine ⟨w,L,?_,h2,h3,h5⟩
  rw [iadd_one (by omega),h1,h2]

theorem withoutF_false (l:List Nd) (p:List UInt8):withoutF l p false=l.filter (fun x=>!undF p x):=by
 unfold withoutF undF
 congr 1
 funext x
 cases underL (parts x.1) (parts p) <;> rfl

theorem empty_val (l:List Nd) (p:List UInt8) (hl:SmL l) (hp:p.length≤4096) (hv:Valid l):P_tree_Empty (l,(p,()))=some (withoutF l p false,()):=by
 obtain ⟨e,c1,c2⟩:=check_val' l hl
 obtain rfl:=c2.2 hv
 rw [withoutF_false]
 unfold P_tree_Empty
 dsimp only
 rw [c1,obind_some]
 dsimp only
 rw [show nt (eqI 0 0)=false by rfl,sel_false,fits_len (by have:=hl.1;omega),sel_true]
 rcases emp_loop0 l p hl hp with ⟨i,x,hx,hg,hb,h⟩ | ⟨hb,h⟩
 ·obtain ⟨w,L,w1,w2,w3,w4⟩:=emp_loop2 l p hl hp i x hx hg hb
  rw [h,obind_some]
  dsimp only
  rw [eqN_one,sel_false,show eqI (i:Int) (-1)=false by unfold eqI;exact decide_eq_false (by omega),sel_false,w1,obind_some]
  dsimp only
  rw [inside_true (by omega) (by unfold len;omega) (Int.le_refl _),sel_true,len_over L w (by omega),inside_true (Int.le_refl _) (by omega) (by omega),sel_true,sub_over L w (by omega),w4]
 ·have hr:l.filter (fun x=>!undF p x)=l:=List.filter_eq_self.2 fun x hx=>by
   obtain ⟨j,hj⟩:=mem_at.1 hx
   rw [hb j x hj];rfl
  rw [h,obind_some,hr]
  dsimp only
  rw [eqN_zero,sel_true,show eqI (-1) (-1)=true by rfl,sel_true]

/-! ### The reference's text -/
/-! ### The reference's nodes and lists -/
theorem refFind_val (l:List Nd) (p:List UInt8) (hl:SmL l) (hv:Valid l):P_ref14_Find (l,(p,()))=some (findF l p):=by
 obtain ⟨e,c1,c2⟩:=isTree_val l hl
 obtain rfl:=c2.2 hv
 unfold P_ref14_Find
 dsimp only
 rcases find_val l p hl with ⟨i,x,hx,hxp,h⟩ | ⟨hno,h⟩
 ·rw [h,obind_some,c1,obind_some]
  dsimp only
  rw [ltI_false (by omega),idx_some' hx,find_some' hv.ord (List.mem_of_getElem? hx) hxp]
  rfl
 ·rw [h,obind_some,c1,obind_some,find_none' hno]
  rfl

end Go.Ge

/- Diffs laid on trees: what goes first, then what is put: in plain words. -/
namespace Go.Ge
set_option linter.unusedVariables false
set_option linter.unusedSimpArgs false

theorem may_bounds {n:Nd} (h:mayF n=true):n.1.length≤92∧n.2.2.2.2.1.length≤100∧n.2.2.2.1.length≤8192:=by
 unfold mayF at h
 simp only [Bool.and_eq_true] at h
 have hp:=h.1.1.1
 have hk:=h.2
 unfold okPath at hp
 simp only [Bool.and_eq_true,decide_eq_true_eq] at hp
 refine ⟨hp.1.1.2,?_⟩
 unfold kindF at hk
 split at hk
 ·have:=of_decide_eq_true hk
  exact ⟨by rw [this.1];simp,this.2⟩
 ·split at hk
  ·have:=of_decide_eq_true hk
   exact ⟨by rw [this.1];simp,by rw [this.2];simp⟩
  ·split at hk
   ·have:=of_decide_eq_true hk
    exact ⟨this.2.2.1,by rw [this.1];simp⟩
   ·cases hk
theorem valid_sm {l:List Nd} (h:Valid l):SmL l:=⟨by have:=h.few;omega,fun x hx=>by
 have:=may_bounds (h.may x hx)
 exact ⟨by omega,by omega,by omega⟩⟩

theorem restF_valid {l:List Nd} (h:Valid l) (p:List UInt8):Valid (restF l p):=by
  refine ⟨Nat.le_trans (List.length_filter_le _ _) h.few,h.ord.filter _,fun x hx=>h.may x (List.mem_filter.1 hx).1,fun x hx=>?_⟩
  obtain ⟨hx1,hx2⟩:=List.mem_filter.1 hx
  by_cases hu:(splitF x.1).1=[]
  · exact .inl hu
  · rcases h.up x hx1 with h0 | ⟨y,hy,e,k⟩
    · exact absurd h0 hu
    · refine .inr ⟨y,List.mem_filter.2 ⟨hy,?_⟩,e,k⟩
      cases hg:gone p y with
      | false=>rfl
      | true =>
        have:gone p x=true:=by
          unfold gone at hg ⊢
          rw [Bool.or_eq_true] at hg ⊢
          rcases hg with hg | hg
          · right
            rw [← of_decide_eq_true hg,e]
            exact under_self hu
          · exact .inr (under_up hu e hg)
        rw [this] at hx2;cases hx2
theorem withoutF_valid {l:List Nd} (h:Valid l) (p:List UInt8):Valid (withoutF l p false):=by
  refine ⟨Nat.le_trans (List.length_filter_le _ _) h.few,h.ord.filter _,fun x hx=>h.may x (List.mem_filter.1 hx).1,fun x hx=>?_⟩
  obtain ⟨hx1,hx2⟩:=List.mem_filter.1 hx
  by_cases hu:(splitF x.1).1=[]
  · exact .inl hu
  · rcases h.up x hx1 with h0 | ⟨y,hy,e,k⟩
    · exact absurd h0 hu
    · refine .inr ⟨y,List.mem_filter.2 ⟨hy,?_⟩,e,k⟩
      cases hg:underL (parts y.1) (parts p) with
      | false=>rfl
      | true =>
        rw [under_up hu e hg] at hx2;cases hx2
theorem rest_without (l:List Nd) (p:List UInt8):withoutF l p true=restF l p:=by
 unfold withoutF restF gone
 congr 1
 funext x
 cases decide (x.1=p) <;> cases underL (parts x.1) (parts p) <;> rfl

theorem whatN_sh (p:Pt):ShN (whatN p).2.1:=by
 have hnil:ShN []:=⟨fun x hx=>(by cases hx),(by simp),(by simp [joinS])⟩
 unfold whatN
 split
 ·rename_i hc
  dsimp only
  split
  ·rename_i hm;exact (gone_join hc hm).2
  ·split
   ·exact drop_sh (clean_sh hc)
   ·split
    ·exact clean_sh hc
    ·exact hnil
 ·exact hnil

def clrT (t:List Nd) (p:Pt):List Nd:=if (whatN p).1=1 then restF t (joinS (whatN p).2.1) else if (whatN p).1=2 then withoutF t (joinS (whatN p).2.1) false else t
theorem clrT_valid {t:List Nd} (h:Valid t) (p:Pt):Valid (clrT t p):=by
 unfold clrT
 split
 ·exact restF_valid h _
 ·split
  ·exact withoutF_valid h _
  ·exact h

theorem invClears_val {t:List Nd} (h:Valid t) (p:Pt):P_inv_clears (stepN p,(t,()))=some (clrT t p,()):=by
 have hsh:=whatN_sh p
 have hs:=valid_sm h
 unfold P_inv_clears stepN stepW clrT
 dsimp only
 by_cases h1:(whatN p).1=1
 ·rw [if_pos h1,if_pos h1]
  show P_overlay_gone_clears _=_
  unfold P_overlay_gone_clears
  dsimp only
  rw [remove_val t _ hs (by have:=hsh.2.2;omega) h,obind_some]
 ·rw [if_neg h1,if_neg h1]
  by_cases h2:(whatN p).1=2
  ·rw [if_pos h2,if_pos h2]
   show P_overlay_opaque_clears _=_
   unfold P_overlay_opaque_clears
   dsimp only
   rw [empty_val t _ hs (by have:=hsh.2.2;omega) h,obind_some]
  ·rw [if_neg h2,if_neg h2]
   by_cases h3:(whatN p).2.1=[]
   ·rw [if_pos h3];rfl
   ·rw [if_neg h3];rfl

theorem refRemove_val' {t:List Nd} (h:Valid t) (p:List UInt8) (hp:p.length≤4096):P_ref14_Remove (t,(p,()))=some (restF t p,()):=by
 obtain ⟨b,b1,b2⟩:=isTree_val t (valid_sm h)
 unfold P_ref14_Remove
 dsimp only
 rw [b1,obind_some,b2.2 h]
 dsimp only
 rw [nt_true,sel_false,without_val t p true (valid_sm h) hp,obind_some,rest_without]
theorem refEmpty_val' {t:List Nd} (h:Valid t) (p:List UInt8) (hp:p.length≤4096):P_ref14_Empty (t,(p,()))=some (withoutF t p false,()):=by
 obtain ⟨b,b1,b2⟩:=isTree_val t (valid_sm h)
 unfold P_ref14_Empty
 dsimp only
 rw [b1,obind_some,b2.2 h]
 dsimp only
 rw [nt_true,sel_false,without_val t p false (valid_sm h) hp,obind_some]

theorem take_fold {α β:Type} (f:β→α→β) (l:List α) (b:β) {i:Nat} {x:α} (hx:l[i]? = some x):(l.take (i + 1)).foldl f b=f ((l.take i).foldl f b) x:=by
 rw [List.take_add_one,hx,List.foldl_append];rfl

theorem clears_val (l:List Pt) (ok:Bool) (t0:List Nd) (ht:Valid t0) (hl:l.length≤10000):Loop (P_overlay_Lay_L0 (l.map stepN,(ok,()))) ((t0,((0:Int),())),())=some ((l.foldl clrT t0,((l.length:Int),())),())∧Valid (l.foldl clrT t0):=by
 obtain ⟨t,h0,h1,_⟩:=fold_loop (f:=P_overlay_Lay_L0 (l.map stepN,(ok,()))) l (fun (t:List Nd) i=>((t,(i,())),())) (fun t _ x=>clrT t x) (fun t=>((t,((l.length:Int),())),())) (fun t i=>t=(l.take i).foldl clrT t0∧Valid t) (by omega) (fun t i x hx hi hadd hI=>by
  have hy:(l.map stepN)[i]? = some (stepN x):=by rw [List.getElem?_map,hx];rfl
  constructor
  ·unfold P_overlay_Lay_L0
   dsimp only
   rw [ltI_len_true (show i < (l.map stepN).length by rw [List.length_map];exact hi),sel_true,idx_some' hy,obind_some,hadd]
   rw [show P_inv_clears (stepN x,(t,()))=_ from invClears_val hI.2 x,obind_some]
   rfl
  ·exact ⟨by rw [take_fold clrT l t0 hx,← hI.1],clrT_valid hI.2 x⟩) (fun t _=>by
  unfold P_overlay_Lay_L0
  dsimp only
  rw [show ltI (l.length:Int) (len (l.map stepN))=false by rw [← List.length_map (f:=stepN)];exact ltI_len_end,sel_false]
  rfl) t0 ⟨rfl,ht⟩
 rw [List.take_length] at h0
 rw [← h0.1]
 exact ⟨h1,h0.2⟩

theorem refClears_val (l0:List Nd) (l:List Pt) (hl:SmPs l) (ht:Valid l0):Loop (P_ref15_Lay_L0 (l0,(l,()))) ((l0,((0:Int),())),())=some ((l.foldl clrT l0,((l.length:Int),())),()):=by
 have h10:=hl.1
 obtain ⟨t,h0,h1,_⟩:=fold_loop (f:=P_ref15_Lay_L0 (l0,(l,()))) l (fun (t:List Nd) i=>((t,(i,())),())) (fun t _ x=>clrT t x) (fun t=>((t,((l.length:Int),())),())) (fun t i=>t=(l.take i).foldl clrT l0∧Valid t) (by omega) (fun t i x hx hi hadd hI=>by
  have hsh:=whatN_sh x
  constructor
  ·unfold P_ref15_Lay_L0
   dsimp only
   rw [ltI_len_true hi,sel_true,idx_some' hx,obind_some,refWhat_val x (hl.2 x (List.mem_of_getElem? hx)),obind_some,hadd]
   dsimp only
   rw [refRemove_val' hI.2 _ (by have:=hsh.2.2;omega),obind_some,refEmpty_val' hI.2 _ (by have:=hsh.2.2;omega),obind_some]
   unfold clrT
   by_cases h1:(whatN x).1=1
   ·rw [eqI_true h1,if_pos h1];rfl
   ·rw [eqI_false h1,if_neg h1]
    by_cases h2:(whatN x).1=2
    ·rw [eqI_true h2,if_pos h2];rfl
    ·rw [eqI_false h2,if_neg h2];rfl
  ·exact ⟨by rw [take_fold clrT l l0 hx,← hI.1],clrT_valid hI.2 x⟩) (fun t _=>by
  unfold P_ref15_Lay_L0
  dsimp only
  rw [ltI_len_end,sel_false]
  rfl) l0 ⟨rfl,ht⟩
 rw [List.take_length] at h0
 rw [← h0.1]
 exact h1
end Go.Ge

/- Diffs laid on trees: what is put: in plain words. -/
namespace Go.Ge
set_option linter.unusedVariables false
set_option linter.unusedSimpArgs false

theorem putF_valid {t:List Nd} {n:Nd} (h:(t14_putF t n).2=0):Valid (t14_putF t n).1:=by
 rcases putF_cases t n with ⟨_,h2⟩ | ⟨h1,h2,h3,r,h4,h5,h6⟩
 ·exact absurd h h2
 ·rw [h6];exact put_valid h1 h2 h3 h4 h5

noncomputable def dirsF:List (List UInt8)→List UInt8→List Nd→List Nd×Int
  | [],_,t=>(t,0)
  | nm :: r, at', t =>
    if (findF t (joinP at' nm)).2.1=true∧(findF t (joinP at' nm)).1.2.1=2 then dirsF r (joinP at' nm) t
    else if (t14_putF t (dirM 493 (joinP at' nm))).2=0 then dirsF r (joinP at' nm) (t14_putF t (dirM 493 (joinP at' nm))).1
    else ([],(t14_putF t (dirM 493 (joinP at' nm))).2)

theorem dirsF_valid:∀ (r:List (List UInt8)) (a:List UInt8) (t:List Nd),Valid t→(dirsF r a t).2=0→Valid (dirsF r a t).1:=by
  intro r
  induction r with
  | nil=>intro a t h _;exact h
  | cons nm r ih =>
    intro a t h h2
    unfold dirsF at h2 ⊢
    split at h2
    · rename_i hc;rw [if_pos hc];exact ih _ _ h h2
    · rename_i hc
      rw [if_neg hc]
      split at h2
      · rename_i hp;rw [if_pos hp];exact ih _ _ (putF_valid hp) h2
      · rename_i hp;exact absurd h2 hp

abbrev DS:=((List Nd×(List Nd×(Int×(List UInt8×(Int×Unit)))))×Unit)

theorem dirs_run {f:DS→Option (DS ⊕ (Nat×DS))} (ns:List (List UInt8)) (h:ShN ns) (n:Nat) (hn:n≤ns.length)
    (hstep:∀ (i:Nat) (x:List UInt8) (t:List Nd),i < n→ns[i]? = some x→Valid t →
      f ((t, ([], ((0 : Int), (joinS (ns.take i), ((i : Int), ()))))), ()) =
        some (if (findF t (preP ns i)).2.1=true∧(findF t (preP ns i)).1.2.1=2 then .inl ((t,([],((0:Int),(preP ns i,(((i + 1:Nat):Int),()))))),())
          else if (t14_putF t (dirM 493 (preP ns i))).2=0 then .inl (((t14_putF t (dirM 493 (preP ns i))).1,([],((0:Int),(preP ns i,(((i + 1:Nat):Int),()))))),())
          else .inr (1,((t,([],((t14_putF t (dirM 493 (preP ns i))).2,(preP ns i,((i:Int),()))))),()))))
    (hend:∀ (t:List Nd) (a:List UInt8),f ((t,([],((0:Int),(a,((n:Int),()))))),())=some (.inr (0,((t,([],((0:Int),(a,((n:Int),()))))),())))) :
    ∀ (d i : Nat) (t : List Nd), i + d = n → Valid t → ∃ z, Loop f ((t, ([], ((0 : Int), (joinS (ns.take i), ((i : Int), ()))))), ()) = some z ∧
      (((dirsF ((ns.take n).drop i) (joinS (ns.take i)) t).2 = 0 ∧ z.1 = 0 ∧ z.2.1.1 = (dirsF ((ns.take n).drop i) (joinS (ns.take i)) t).1) ∨
       ((dirsF ((ns.take n).drop i) (joinS (ns.take i)) t).2 ≠ 0∧z.1=1∧z.2.1.2.1=[]∧z.2.1.2.2.1=(dirsF ((ns.take n).drop i) (joinS (ns.take i)) t).2)):=by
  intro d
  induction d with
  | zero =>
    intro i t hi hv
    obtain rfl:i=n:=by omega
    refine ⟨_,by rw [Loop_eq,hend];rfl,.inl ?_⟩
    rw [List.drop_of_length_le (by rw [List.length_take];omega)]
    exact ⟨rfl,rfl,rfl⟩
  | succ d ih =>
    intro i t hi hv
    have hx:ns[i]? = some ns[i]:=List.getElem?_eq_getElem (by omega)
    have hs:=hstep i ns[i] t (by omega) hx hv
    have hdrop:(ns.take n).drop i=ns[i] :: (ns.take n).drop (i + 1):=by
      rw [List.drop_eq_getElem_cons (by rw [List.length_take];omega),List.getElem_take]
    have hj:=joinP_take h.1 hx
    rw [hdrop]
    unfold dirsF
    rw [hj]
    have hn1:preP ns i=joinS (ns.take (i + 1)):=rfl
    split
    · rename_i hc
      rw [if_pos hc] at hs
      obtain ⟨z,z1,z2⟩:=ih (i + 1) t (by omega) hv
      refine ⟨z,?_,by rw [hn1];exact z2⟩
      rw [Loop_eq,hs]
      exact z1
    · rename_i hc
      rw [if_neg hc] at hs
      split
      · rename_i hp
        rw [if_pos hp] at hs
        obtain ⟨z,z1,z2⟩:=ih (i + 1) _ (by omega) (putF_valid hp)
        refine ⟨z,?_,by rw [hn1];exact z2⟩
        rw [Loop_eq,hs]
        exact z1
      · rename_i hp
        rw [if_neg hp] at hs
        refine ⟨_,by rw [Loop_eq,hs];rfl,.inr ⟨hp,rfl,rfl,rfl⟩⟩

theorem dir_sm (m:Int) {ns:List (List UInt8)} (h:ShN ns) (i:Nat):Sm (dirM m (preP ns i)):=⟨h.pre_len (i + 1),by simp [dirM],by simp [dirM]⟩

noncomputable def nodeF (ns:List (List UInt8)) (t:List Nd) (n:Nd):List Nd×Int:=if (dirsF ns.dropLast [] t).2=0 then t14_putF (dirsF ns.dropLast [] t).1 n else ([],(dirsF ns.dropLast [] t).2)

theorem nodePuts_val {ns:List (List UInt8)} (h:ShN ns) {n:Nd} (hn:n.1=joinS ns) (hs:Sm n) {t:List Nd} (hv:Valid t):P_overlay_node_puts ((n,()),(t,()))=some ((nodeF ns t n).1,((nodeF ns t n).2,())):=by
  have hd:ShN ns.dropLast:=drop_sh h
  unfold P_overlay_node_puts
  dsimp only
  rw [hn,psplit_val _ (by have:=h.2.2;omega),obind_some,split_clean h.1]
  dsimp only
  rw [parts_val _ (by have:=hd.2.2;omega),obind_some,parts_joinS _ hd.1]
  obtain ⟨z, z1, z2⟩ := dirs_run (f := P_overlay_node_puts_L0 (ns.dropLast, ())) ns.dropLast hd ns.dropLast.length (Nat.le_refl _) (fun i x u hi hx hu => by
      have hus:=valid_sm hu
      have hxl:=hd.mem_len (List.mem_of_getElem? hx)
      have hpl:=hd.pre_len i
      have hpl1:=hd.pre_len (i + 1)
      have h16:=hd.2.1
      unfold P_overlay_node_puts_L0
      dsimp only
      rw [ltI_len_true hi,sel_true,idx_some' hx,obind_some,pjoin_val _ _ (by omega) (by omega),obind_some,joinP_take hd.1 hx]
      dsimp only
      rw [tfind_val u _ hus (by unfold preP;omega) hu,obind_some,iadd_one (by omega)]
      have hp:=t14_put_val u (dirM 493 (preP ns.dropLast i)) hus (dir_sm 493 hd i)
      rw [show P_tree_Put (u,((preP ns.dropLast i,((2:Int),((493:Int),(([]:List UInt8),(([]:List UInt8),()))))),()))=_ from hp,obind_some]
      dsimp only
      by_cases hf:(findF u (preP ns.dropLast i)).2.1=true
      · by_cases hk : (findF u (preP ns.dropLast i)).1.2.1 = 2
        · rw [hf,eqI_true hk,if_pos ⟨rfl,hk⟩];rfl
        · rw [hf,eqI_false hk,if_neg (fun q=>hk q.2)]
          by_cases he:(t14_putF u (dirM 493 (preP ns.dropLast i))).2=0
          · rw [eqI_true he,if_pos he];rfl
          · rw [eqI_false he,if_neg he];rfl
      · rw [show (findF u (preP ns.dropLast i)).2.1=false by simpa using hf,if_neg (fun q=>by cases q.1)]
        by_cases he:(t14_putF u (dirM 493 (preP ns.dropLast i))).2=0
        · rw [eqI_true he,if_pos he];rfl
        · rw [eqI_false he,if_neg he];rfl) (fun u a=>by
      unfold P_overlay_node_puts_L0
      dsimp only
      rw [ltI_len_end,sel_false]) ns.dropLast.length 0 t (by omega) hv
  rw [List.take_length,List.drop_zero] at z2
  rw [show Loop (P_overlay_node_puts_L0 (ns.dropLast,())) ((t,(([]:List Nd),((0:Int),(([]:List UInt8),((0:Int),()))))),())=_ from z1,obind_some]
  have ht0:joinS (ns.dropLast.take 0)=[]:=by simp [joinS]
  rw [ht0] at z2
  unfold nodeF
  rcases z2 with ⟨a1,a2,a3⟩ | ⟨a1,a2,a3,a4⟩
  · have hv2:=dirsF_valid _ _ _ hv a1
    rw [a2,show eqN 0 0=true from rfl,sel_true,a3,if_pos a1,t14_put_val _ n (valid_sm hv2) hs,obind_some]
  · rw [a2,show eqN 1 0=false from rfl,sel_false,a3,a4,if_neg a1]

theorem refDirs_val {ns:List (List UInt8)} (h:ShN ns) {t:List Nd} (hv:Valid t):P_ref15_dirs (t,(joinS ns,()))=some ((if (dirsF ns.dropLast [] t).2=0 then (dirsF ns.dropLast [] t).1 else []),((dirsF ns.dropLast [] t).2,())):=by
  unfold P_ref15_dirs
  dsimp only
  rw [refParts_val _ (by have:=h.2.2;omega),obind_some,parts_joinS _ h.1]
  have hlt:ns.take (ns.length - 1)=ns.dropLast:=List.dropLast_eq_take.symm
  obtain ⟨z, z1, z2⟩ := dirs_run (f := P_ref15_dirs_L0 (ns, ())) ns h (ns.length - 1) (by omega) (fun i x u hi hx hu => by
      have hus:=valid_sm hu
      have hxl:=h.mem_len (List.mem_of_getElem? hx)
      have hpl:=h.pre_len i
      have hpl1:=h.pre_len (i + 1)
      have h16:=h.2.1
      unfold P_ref15_dirs_L0
      dsimp only
      rw [iadd_one (by omega),ltI_len_true (show i + 1 < ns.length by omega),sel_true,idx_some' hx,obind_some,refpjoin_val _ _ (by omega) (by omega),obind_some,joinP_take h.1 hx]
      dsimp only
      rw [refFind_val u _ hus hu,obind_some]
      have hp:=t14_refPut_val u (dirM 493 (preP ns i)) hus (dir_sm 493 h i)
      rw [show P_ref14_Put (u,((preP ns i,((2:Int),((493:Int),(([]:List UInt8),(([]:List UInt8),()))))),()))=_ from hp,obind_some]
      dsimp only
      by_cases hf:(findF u (preP ns i)).2.1=true
      · by_cases hk : (findF u (preP ns i)).1.2.1 = 2
        · rw [hf,eqI_true hk,if_pos ⟨rfl,hk⟩];rfl
        · rw [hf,eqI_false hk,if_neg (fun q=>hk q.2)]
          by_cases he:(t14_putF u (dirM 493 (preP ns i))).2=0
          · rw [eqI_true he,if_pos he];rfl
          · rw [eqI_false he,if_neg he];rfl
      · rw [show (findF u (preP ns i)).2.1=false by simpa using hf,if_neg (fun q=>by cases q.1)]
        by_cases he:(t14_putF u (dirM 493 (preP ns i))).2=0
        · rw [eqI_true he,if_pos he];rfl
        · rw [eqI_false he,if_neg he];rfl) (fun u a=>by
      unfold P_ref15_dirs_L0
      dsimp only
      have h16:=h.2.1
      rw [iadd_one (by omega),show ltI ((ns.length - 1 + 1:Nat):Int) (len ns)=false from ltI_false (by unfold len;omega),sel_false]) (ns.length - 1) 0 t (by omega) hv
  rw [List.drop_zero,hlt] at z2
  rw [show Loop (P_ref15_dirs_L0 (ns,())) ((t,(([]:List Nd),((0:Int),(([]:List UInt8),((0:Int),()))))),())=_ from z1,obind_some]
  have ht0:joinS (ns.take 0)=[]:=by simp [joinS]
  rw [ht0] at z2
  rcases z2 with ⟨a1,a2,a3⟩ | ⟨a1,a2,a3,a4⟩
  · rw [a2,show eqN 0 0=true from rfl,sel_true,a3,if_pos a1,a1]
  · rw [a2,show eqN 1 0=false from rfl,sel_false,a3,a4,if_neg a1]
end Go.Ge

/- Diffs laid on trees: what comes of entries laid on nodes: in plain words. -/
namespace Go.Ge
set_option linter.unusedVariables false
set_option linter.unusedSimpArgs false

theorem whatN_mark (p:Pt):(whatN p).1=0∨(whatN p).1=1∨(whatN p).1=2:=by
 unfold whatN
 split
 ·dsimp only
  split
  ·exact .inr (.inl rfl)
  ·split
   ·exact .inr (.inr rfl)
   ·split
    ·exact .inl rfl
    ·exact .inl rfl
 ·exact .inl rfl

noncomputable def putsF (t:List Nd) (p:Pt):List Nd×Int:=if (whatN p).1=0∧(whatN p).2.1 ≠ [] then nodeF (whatN p).2.1 t (nodeOf p (joinS (whatN p).2.1)) else (t,0)
noncomputable def runF:List Pt→List Nd→List Nd×Int
 | [],t=>(t,0)
 | p :: r,t=>if (putsF t p).2=0 then runF r (putsF t p).1 else ([],(putsF t p).2)

theorem nodeF_valid {ns:List (List UInt8)} {t:List Nd} {n:Nd} (h:(nodeF ns t n).2=0):Valid (nodeF ns t n).1:=by
 unfold nodeF at h ⊢
 split at h
 ·rename_i hd;rw [if_pos hd];exact putF_valid h
 ·rename_i hd;exact absurd h hd
theorem putsF_valid {t:List Nd} {p:Pt} (hv:Valid t) (h:(putsF t p).2=0):Valid (putsF t p).1:=by
 unfold putsF at h ⊢
 split at h
 ·rename_i hc;rw [if_pos hc];exact nodeF_valid h
 ·rename_i hc;rw [if_neg hc];exact hv
theorem runF_valid:∀ (l:List Pt) (t:List Nd),Valid t→(((runF l t).2=0∧Valid (runF l t).1)∨((runF l t).2 ≠ 0∧(runF l t).1=[])):=by
  intro l
  induction l with
  | nil=>intro t h;exact .inl ⟨rfl,h⟩
  | cons p r ih =>
    intro t h
    unfold runF
    split
    · rename_i hp;exact ih _ (putsF_valid h hp)
    · rename_i hp;exact .inr ⟨hp,rfl⟩

theorem node_sm {p:Pt} (hp:SmP p) {ns:List (List UInt8)} (h:ShN ns):Sm (nodeOf p (joinS ns)):=⟨h.2.2,hp.2.1,hp.2.2⟩

theorem invPuts_val {t:List Nd} (h:Valid t) (p:Pt) (hp:SmP p):P_inv_puts (stepN p,(t,()))=some ((putsF t p).1,((putsF t p).2,())):=by
 have hsh:=whatN_sh p
 unfold P_inv_puts stepN stepW putsF
 dsimp only
 rcases whatN_mark p with h0 | h0 | h0
 ·rw [if_neg (by rw [h0];decide),if_neg (by rw [h0];decide)]
  by_cases h3:(whatN p).2.1=[]
  ·rw [if_pos h3,if_neg (fun q=>q.2 h3)];rfl
  ·rw [if_neg h3,if_pos ⟨h0,h3⟩]
   exact nodePuts_val hsh rfl (node_sm hp hsh) h
 ·rw [if_pos h0,if_neg (fun q=>by rw [h0] at q;exact absurd q.1 (by decide))];rfl
 ·rw [if_neg (by rw [h0];decide),if_pos h0,if_neg (fun q=>by rw [h0] at q;exact absurd q.1 (by decide))];rfl

theorem runs {S R:Type} {f:S→Option (S ⊕ R)} (l:List Pt) (mk:List Nd→Nat→S) (fin:List Nd→R) (err:Int→List Nd→Nat→R)
    (hstep:∀ (i:Nat) (x:Pt) (t:List Nd),l[i]? = some x→Valid t→f (mk t i)=some (if (putsF t x).2=0 then .inl (mk (putsF t x).1 (i + 1)) else .inr (err (putsF t x).2 t i)))
    (hend:∀ t,f (mk t l.length)=some (.inr (fin t))) :
    ∀ (d i:Nat) (t:List Nd),i + d=l.length→Valid t→∃ z,Loop f (mk t i)=some z ∧
      (((runF (l.drop i) t).2=0∧z=fin (runF (l.drop i) t).1)∨((runF (l.drop i) t).2 ≠ 0∧∃ t' i',z=err (runF (l.drop i) t).2 t' i')):=by
  intro d
  induction d with
  | zero =>
    intro i t hi hv
    obtain rfl:i=l.length:=by omega
    refine ⟨_,by rw [Loop_eq,hend];rfl,.inl ?_⟩
    rw [List.drop_length]
    exact ⟨rfl,rfl⟩
  | succ d ih =>
    intro i t hi hv
    have hx:l[i]? = some l[i]:=List.getElem?_eq_getElem (by omega)
    have hs:=hstep i l[i] t hx hv
    rw [List.drop_eq_getElem_cons (by omega)]
    unfold runF
    split
    · rename_i hp
      rw [if_pos hp] at hs
      obtain ⟨z,z1,z2⟩:=ih (i + 1) _ (by omega) (putsF_valid hv hp)
      exact ⟨z,by rw [Loop_eq,hs];exact z1,z2⟩
    · rename_i hp
      rw [if_neg hp] at hs
      exact ⟨_,by rw [Loop_eq,hs];rfl,.inr ⟨hp,t,i,rfl⟩⟩

open Classical in
noncomputable def layF (l:List Nd) (ps:List Pt):List Nd×Int:=if Valid l then (if allOk ps=true then runF ps (ps.foldl clrT l) else ([],10)) else ([],1)

theorem folds_valid (ps:List Pt):∀ (l:List Nd),Valid l→Valid (ps.foldl clrT l):=by
 induction ps with
 | nil=>intro l h;exact h
 | cons p r ih=>intro l h;exact ih _ (clrT_valid h p)

theorem lay_val (l:List Nd) (ps:List Pt) (hl:SmL l) (hp:SmPs ps):P_overlay_Lay (l,(ps,()))=some ((layF l ps).1,((layF l ps).2,())):=by
  obtain ⟨e,c1,c2⟩:=check_val' l hl
  have h1:=hl.1
  have h2:=hp.1
  unfold P_overlay_Lay layF
  dsimp only
  rw [c1,obind_some]
  dsimp only
  by_cases hv:Valid l
  · rw [c2.2 hv, show nt (eqI 0 0) = false from rfl, sel_false, if_pos hv, steps_val ps hp, obind_some]
    by_cases ha:allOk ps=true
    · rw [if_pos ha, if_pos ha]
      dsimp only
      rw [nt_true,sel_false,fits_len2 (by simp only [List.length_nil];omega),sel_true,show app ([]:List Nd) l=l from rfl]
      obtain ⟨k1,k2⟩:=clears_val ps true l hv (by omega)
      rw [k1,obind_some]
      dsimp only
      obtain ⟨z,z1,z2⟩:=runs (f:=P_overlay_Lay_L1 (ps.map stepN,(true,()))) ps (fun t i=>(([],((0:Int),(t,((i:Int),())))),())) (fun t=>(0,(([],((0:Int),(t,((ps.length:Int),())))),()))) (fun e t i=>(1,(([],(e,(t,((i:Int),())))),()))) (fun i x t hx hu=>by
          have hi:=getElem?_lt hx
          have hy:(ps.map stepN)[i]? = some (stepN x):=by rw [List.getElem?_map,hx];rfl
          unfold P_overlay_Lay_L1
          dsimp only
          rw [ltI_len_true (show i < (ps.map stepN).length by rw [List.length_map];exact hi),sel_true,idx_some' hy,obind_some,iadd_one (by omega)]
          rw [show P_inv_puts (stepN x,(t,()))=_ from invPuts_val hu x (hp.2 x (List.mem_of_getElem? hx)),obind_some]
          dsimp only
          by_cases he:(putsF t x).2=0
          · rw [eqI_true he,if_pos he];rfl
          · rw [eqI_false he,if_neg he];rfl) (fun t=>by
          unfold P_overlay_Lay_L1
          dsimp only
          rw [show ltI (ps.length:Int) (len (ps.map stepN))=false by rw [← List.length_map (f:=stepN)];exact ltI_len_end,sel_false]) ps.length 0 (ps.foldl clrT l) (by omega) k2
      rw [List.drop_zero] at z2
      rw [show Loop (P_overlay_Lay_L1 (ps.map stepN,(true,()))) (([],((0:Int),(ps.foldl clrT l,((0:Int),())))),())=_ from z1,obind_some]
      rcases z2 with ⟨a1,a2⟩ | ⟨a1,t',i',a2⟩
      · rw [a2,a1];rfl
      · rw [a2]
        rcases runF_valid ps _ k2 with ⟨b1,_⟩ | ⟨_,b2⟩
        · exact absurd b1 a1
        · rw [b2];rfl
    · rw [if_neg ha,if_neg ha];rfl
  · have:e ≠ 0:=fun q=>hv (c2.1 q)
    rw [eqI_false this,nt_false,sel_true,if_neg hv]

theorem refLay_val (l:List Nd) (ps:List Pt) (hl:SmL l) (hp:SmPs ps):P_ref15_Lay (l,(ps,()))=some ((layF l ps).1,((layF l ps).2,())):=by
  obtain ⟨e,c1,c2⟩:=isTree_val l hl
  have h1:=hl.1
  have h2:=hp.1
  unfold P_ref15_Lay layF
  dsimp only
  rw [c1,obind_some]
  dsimp only
  by_cases hv:Valid l
  · rw [c2.2 hv, nt_true, sel_false, if_pos hv, refClean15_val ps hp, obind_some]
    dsimp only
    by_cases ha:allOk ps=true
    · rw [if_pos ha, ha, nt_true, sel_false]
      have k1:=refClears_val l ps hp hv
      have k2:=folds_valid ps l hv
      rw [k1,obind_some]
      dsimp only
      obtain ⟨z, z1, z2⟩ := runs (f := P_ref15_Lay_L1 (l, (ps, ()))) ps (fun t i => ((t, ([], ((0 : Int), ((i : Int), ())))), ())) (fun t => (0, ((t, ([], ((0 : Int), ((ps.length : Int), ())))), ()))) (fun e t i => (1, ((t, ([], (e, ((i : Int), ())))), ()))) (fun i x t hx hu => by
          have hi:=getElem?_lt hx
          have hpx:=hp.2 x (List.mem_of_getElem? hx)
          have hsh:=whatN_sh x
          unfold P_ref15_Lay_L1
          dsimp only
          rw [ltI_len_true hi,sel_true,idx_some' hx,obind_some,refWhat_val x hpx,obind_some,iadd_one (by omega)]
          dsimp only
          rw [refDirs_val hsh hu,obind_some,obind_some]
          unfold P_ref15_node
          dsimp only
          rw [obind_some]
          dsimp only
          by_cases h0:(whatN x).1=0
          · have hj:=joinS_nil hsh.1
            by_cases hn:(whatN x).2.1=[]
            · have hpf:putsF t x=(t,0):=by unfold putsF;rw [if_neg (fun q=>q.2 hn)]
              rw [hpf,eqI_true h0,eqS_true (hj.2 hn)];rfl
            · have hpf:putsF t x=nodeF (whatN x).2.1 t (nodeOf x (joinS (whatN x).2.1)):=by unfold putsF;rw [if_pos ⟨h0,hn⟩]
              rw [hpf,eqI_true h0,eqS_false (fun q=>hn (hj.1 q))]
              rw [show ∀ (A B:Option ((((List Nd)×(List Nd)×Int×Int×Unit)×Unit) ⊕ (Nat×((List Nd)×(List Nd)×Int×Int×Unit)×Unit))),sel (sel (nt (nt true)) false true) A B=B from fun A B=>rfl]
              by_cases hd:(dirsF (whatN x).2.1.dropLast [] t).2=0
              · have hnf:nodeF (whatN x).2.1 t (nodeOf x (joinS (whatN x).2.1))=t14_putF (dirsF (whatN x).2.1.dropLast [] t).1 (nodeOf x (joinS (whatN x).2.1)):=by unfold nodeF;rw [if_pos hd]
                have hv2:=dirsF_valid _ _ _ hu hd
                have hput:=t14_refPut_val (dirsF (whatN x).2.1.dropLast [] t).1 (nodeOf x (joinS (whatN x).2.1)) (valid_sm hv2) (node_sm hpx hsh)
                rw [hnf,eqI_true hd,if_pos hd,nt_true,sel_false]
                rw [show P_ref14_Put ((dirsF (whatN x).2.1.dropLast [] t).1,((joinS (whatN x).2.1,(x.1.2.1,(x.1.2.2.1,(x.2.1,(x.1.2.2.2.2.2.2.2.1,()))))),()))=_ from hput,obind_some]
                dsimp only
                by_cases he:(t14_putF (dirsF (whatN x).2.1.dropLast [] t).1 (nodeOf x (joinS (whatN x).2.1))).2=0
                · rw [eqI_true he,if_pos he];rfl
                · rw [eqI_false he,if_neg he];rfl
              · have hnf:nodeF (whatN x).2.1 t (nodeOf x (joinS (whatN x).2.1))=([],(dirsF (whatN x).2.1.dropLast [] t).2):=by unfold nodeF;rw [if_neg hd]
                rw [hnf,eqI_false hd,if_neg hd,if_neg hd]
                rfl
          · have hpf:putsF t x=(t,0):=by unfold putsF;rw [if_neg (fun q=>h0 q.1)]
            rw [hpf,eqI_false h0];rfl) (fun t=>by
          unfold P_ref15_Lay_L1
          dsimp only
          rw [ltI_len_end,sel_false]) ps.length 0 (ps.foldl clrT l) (by omega) k2
      rw [List.drop_zero] at z2
      rw [show Loop (P_ref15_Lay_L1 (l,(ps,()))) ((ps.foldl clrT l,([],((0:Int),((0:Int),())))),())=_ from z1,obind_some]
      rcases z2 with ⟨a1,a2⟩ | ⟨a1,t',i',a2⟩
      · rw [a2,a1];rfl
      · rw [a2]
        rcases runF_valid ps _ k2 with ⟨b1,_⟩ | ⟨_,b2⟩
        · exact absurd b1 a1
        · rw [b2];rfl
    · rw [if_neg ha,show allOk ps=false by simpa using ha];rfl
  · have:e=false:=by
      cases e with
      | false=>rfl
      | true=>exact absurd (c2.1 rfl) hv
    rw [this,if_neg hv];rfl

end Go.Ge

/- A reader that nobody made reads nothing. -/
namespace Go.Ge
set_option linter.unusedVariables false
set_option linter.unusedSimpArgs false

def rd0:Rd:=(false,([],(0,(false,(false,())))))

abbrev Ns:=(Bool×Int×Unit)×(Unit×Unit×Unit)×Rd×Unit
def ns (k:Int):Ns:=((false,(k,())),(((),((),())),(rd0,())))

end Go.Ge

/- What must come in layer 15, whatever the arguments are: in plain words. -/
namespace Go.Ge
set_option linter.unusedVariables false

def putB' (l:List Nd) (n:Nd):List Nd×Int:=if mayF n=true then t14_putB l n else ([],1)
theorem putB_eq {l:List Nd} (h:Valid l) (n:Nd):t14_putF l n=putB' l n:=by
 unfold putB'
 by_cases hm:mayF n=true
 ·rw [if_pos hm,putF_eq h hm]
 ·rw [if_neg hm]
  unfold t14_putF
  rw [if_pos (.inr (by simpa using hm))]
def dirsB:List (List UInt8)→List UInt8→List Nd→List Nd×Int
  | [],_,t=>(t,0)
  | nm :: r, a, t =>
    if (findF t (joinP a nm)).2.1=true∧(findF t (joinP a nm)).1.2.1=2 then dirsB r (joinP a nm) t
    else if (putB' t (dirM 493 (joinP a nm))).2=0 then dirsB r (joinP a nm) (putB' t (dirM 493 (joinP a nm))).1
    else ([],(putB' t (dirM 493 (joinP a nm))).2)
theorem dirsB_eq:∀ (r:List (List UInt8)) (a:List UInt8) (t:List Nd),Valid t→dirsF r a t=dirsB r a t:=by
  intro r
  induction r with
  | nil=>intro a t _;rfl
  | cons nm r ih =>
    intro a t h
    unfold dirsF dirsB
    rw [← putB_eq h]
    split
    · exact ih _ _ h
    · split
      · rename_i hp;exact ih _ _ (putF_valid hp)
      · rfl
def nodeB (ns:List (List UInt8)) (t:List Nd) (n:Nd):List Nd×Int:=if (dirsB ns.dropLast [] t).2=0 then putB' (dirsB ns.dropLast [] t).1 n else ([],(dirsB ns.dropLast [] t).2)
theorem nodeB_eq (ns:List (List UInt8)) {t:List Nd} (h:Valid t) (n:Nd):nodeF ns t n=nodeB ns t n:=by
 unfold nodeF nodeB
 rw [← dirsB_eq _ _ _ h]
 split
 ·rename_i hd;exact putB_eq (dirsF_valid _ _ _ h hd) n
 ·rfl
def putsB (t:List Nd) (p:Pt):List Nd×Int:=if (whatN p).1=0∧(whatN p).2.1 ≠ [] then nodeB (whatN p).2.1 t (nodeOf p (joinS (whatN p).2.1)) else (t,0)
theorem putsB_eq {t:List Nd} (h:Valid t) (p:Pt):putsF t p=putsB t p:=by
 unfold putsF putsB
 split
 ·exact nodeB_eq _ h _
 ·rfl
def runB:List Pt→List Nd→List Nd×Int
 | [],t=>(t,0)
 | p :: r,t=>if (putsB t p).2=0 then runB r (putsB t p).1 else ([],(putsB t p).2)
theorem runB_eq:∀ (l:List Pt) (t:List Nd),Valid t→runF l t=runB l t:=by
  intro l
  induction l with
  | nil=>intro t _;rfl
  | cons p r ih =>
    intro t h
    unfold runF runB
    rw [← putsB_eq h]
    split
    · rename_i hp;exact ih _ (putsF_valid h hp)
    · rfl
theorem lay_run {l:List Nd} {ps:List Pt} {r:List Nd×Int} (h:validB l=true) (hp:SmPs ps) (hr:(if allOk ps=true then runB ps (ps.foldl clrT l) else ([],10))=r):P_overlay_Lay (l,(ps,()))=some (r.1,(r.2,())):=by
 have hv:=validB_valid h
 rw [lay_val l ps (valid_sm hv) hp]
 unfold layF
 rw [if_pos hv,runB_eq _ _ (folds_valid ps l hv),hr]

def aF (path data:List UInt8):Pt:=((path,(1,(420,(0,(0,(len data,(0,([],())))))))),(data,()))
def aT1:List Nd:=[([98],(1,(420,([121],([],()))))),([100],(2,(493,([],([],()))))),([100,47,97],(1,(420,([120],([],())))))]
def aT2:List Nd:=[([100],(2,(493,([],([],()))))),([100,47,97],(1,(420,([122],([],())))))]
theorem aF_sm {p d:List UInt8} (hp:p.length≤300) (hd:d.length≤300):SmP (aF p d):=⟨hp,by simp [aF],by show d.length≤8192;omega⟩
theorem aL1:P_overlay_Lay ([],([aF [46,47,100,47,97] [120],aF [98] [121]],()))=some (aT1,(0,())):=lay_run (r:=(aT1,0)) (by decide +kernel) ⟨by simp,fun p hp=>by
 simp only [List.mem_cons,List.not_mem_nil,or_false] at hp
 rcases hp with rfl | rfl <;> exact aF_sm (by simp) (by simp)⟩ (by kernel_rfl)
theorem aL2:P_overlay_Lay (aT1,([aF [100,47,46,119,104,46,97] [],aF [46,119,104,46,98] [],aF [100,47,97] [122]],()))=some (aT2,(0,())):=lay_run (r:=(aT2,0)) (by decide +kernel) ⟨by simp,fun p hp=>by
 simp only [List.mem_cons,List.not_mem_nil,or_false] at hp
 rcases hp with rfl | rfl | rfl <;> exact aF_sm (by simp) (by simp)⟩ (by kernel_rfl)
theorem aL3:P_overlay_Lay (aT2,([aF [46,46,47,120] []],()))=some ([],(10,())):=lay_run (r:=([],10)) (by decide +kernel) ⟨by simp,fun p hp=>by
 simp only [List.mem_cons,List.not_mem_nil,or_false] at hp
 rcases hp with rfl;exact aF_sm (by simp) (by simp)⟩ (by kernel_rfl)
theorem check_bad {s:List UInt8} (h:P_tar_Read (s,())=some ([],(10,()))):P_overlay_Check (s,())=some (10,()):=by
 unfold P_overlay_Check
 dsimp only
 rw [h,obind_some]
 dsimp only
 rw [steps_val [] ⟨by simp,fun p hp=>by cases hp⟩,obind_some]
 rfl
theorem read_x:P_tar_Read ([120],())=some ([],(10,())):=by
 unfold P_tar_Read
 have h1:P_tar_Reader_Next ((),((true,(([120]:List UInt8),((0:Int),(ltI (8192:Int) (@len UInt8 [120]),(ltI (8192:Int) (@len UInt8 [120]),()))))),()))=some ((zeroPt,(false,())),((true,([],((0:Int),(true,(true,()))))),())):=by kernel_rfl
 dsimp only
 rw [h1,obind_some]
 dsimp only
 rw [Loop_eq,step_last]
 rfl
theorem aC1:P_overlay_Check ([120],())=some (10,()):=check_bad read_x
theorem zeros_nul:intsBytes (lrep (1024:Int) (0:Int))=nul 1024:=by
 unfold lrep intsBytes nul
 rw [List.map_replicate]
 rfl
theorem read_zeros:P_tar_Read (nul 1024,())=some ([],(0,())):=by
 have hz:∀ x ∈ nul 1024,x=0:=nul_all _
 have hl:(nul 1024).length=1024:=length_nul _
 unfold P_tar_Read
 dsimp only
 rw [ltI_false (show len (nul 1024)≤8192 by unfold len;omega)]
 rw [show P_tar_Reader_Next ((),((true,(nul 1024,((0:Int),(false,(false,()))))),()))=_ from next_zero (nul 1024) 0 (by omega) (by omega) (fun x hx=>hz x (List.mem_of_mem_take hx)),decide_eq_true ⟨by omega,by omega,hz⟩,obind_some]
 dsimp only
 rw [Loop_eq,step_last]
 rfl
theorem aC2:P_overlay_Check (intsBytes (lrep (1024:Int) (0:Int)),())=some (0,()):=by
 unfold P_overlay_Check
 dsimp only
 rw [zeros_nul,read_zeros,obind_some]
 dsimp only
 rw [steps_val [] ⟨by simp,fun p hp=>by cases hp⟩,obind_some]
 rfl

theorem awake15:P_law15_awake ()=some (true,()):=by
 unfold P_law15_awake P_law15_file
 have l1:=aL1
 have l2:=aL2
 have l3:=aL3
 unfold aF at l1 l2 l3
 unfold aT1 at l1 l2
 unfold aT2 at l2 l3
 simp only [obind_some]
 rw [l1,obind_some]
 dsimp only
 rw [l2,obind_some]
 dsimp only
 rw [l3,obind_some]
 dsimp only
 rw [aC1,obind_some]
 dsimp only
 rw [aC2]
 rfl
end Go.Ge

/- The law OverlayFree: whether bytes are a diff does not hang on the tree: in plain words. -/
namespace Go.Ge
set_option linter.unusedVariables false
set_option linter.unusedSimpArgs false

def Has (t:List Nd) (p:List UInt8):Prop:=p=[]∨∃ x ∈ t,x.1=p∧x.2.1=2

theorem put_room {t:List Nd} {n:Nd} (hv:Valid t) (hm:mayF n=true) (h:Has t (splitF n.1).1):((t14_putF t n).2=0∧n ∈ (t14_putF t n).1)∨(t14_putF t n).2=5:=by
 unfold t14_putF
 rw [if_neg (show ¬ (¬ Valid t∨mayF n=false) from fun q=>q.elim (fun q=>q hv) (fun q=>by rw [hm] at q;cases q))]
 have h3:¬ ((splitF n.1).1 ≠ []∧∀ x ∈ t,x.1 ≠ (splitF n.1).1):=fun q=>by
  rcases h with h | ⟨x,hx,e,_⟩
  ·exact q.1 h
  ·exact q.2 x hx e
 have h12:¬ ((splitF n.1).1 ≠ []∧∀ x ∈ t,x.1=(splitF n.1).1→x.2.1 ≠ 2):=fun q=>by
  rcases h with h | ⟨x,hx,e,k⟩
  ·exact q.1 h
  ·exact q.2 x hx e k
 rw [if_neg h3,if_neg h12]
 have key:∀ r:List Nd,((if 64≤r.length then (([]:List Nd),(5:Int)) else (insF r n,0)).2=0∧n ∈ (if 64≤r.length then (([]:List Nd),(5:Int)) else (insF r n,0)).1)∨(if 64≤r.length then (([]:List Nd),(5:Int)) else (insF r n,0)).2=5:=fun r=>by
  split
  ·exact .inr rfl
  ·exact .inl ⟨rfl,mem_insF.2 (.inl rfl)⟩
 exact key _

theorem findF_mem {t:List Nd} {p:List UInt8} (h:(findF t p).2.1=true):(findF t p).1 ∈ t∧(findF t p).1.1=p:=by
 unfold findF at h ⊢
 cases hf:t.find? fun x=>decide (x.1=p) with
 | none=>rw [hf] at h;cases h
 | some x=>exact ⟨List.mem_of_find?_eq_some hf,by have:=List.find?_some hf;simpa using this⟩

theorem may_mode {p:List UInt8} (h:mayF (dirM 0 p)=true):mayF (dirM 493 p)=true:=by
 unfold mayF at h ⊢
 simp only [Bool.and_eq_true] at h ⊢
 exact ⟨⟨⟨h.1.1.1,by simp [dirM]⟩,by simp [dirM]⟩,by simp [kindF,dirM]⟩

theorem dirs_room {ns:List (List UInt8)} (h:ShN ns) (n:Nat) (hn:n≤ns.length) (hm:preB ns n=true):∀ (d i:Nat) (t:List Nd),i + d=n→Valid t→Has t (joinS (ns.take i)) →
    ((dirsF ((ns.take n).drop i) (joinS (ns.take i)) t).2=0∧Has (dirsF ((ns.take n).drop i) (joinS (ns.take i)) t).1 (joinS (ns.take n)))∨(dirsF ((ns.take n).drop i) (joinS (ns.take i)) t).2=5:=by
  intro d
  induction d with
  | zero =>
    intro i t hi hv hh
    obtain rfl:i=n:=by omega
    rw [List.drop_of_length_le (by rw [List.length_take];omega)]
    exact .inl ⟨rfl,hh⟩
  | succ d ih =>
    intro i t hi hv hh
    have hx:ns[i]? = some ns[i]:=List.getElem?_eq_getElem (by omega)
    have hdrop:(ns.take n).drop i=ns[i] :: (ns.take n).drop (i + 1):=by
      rw [List.drop_eq_getElem_cons (by rw [List.length_take];omega),List.getElem_take]
    have hj:=joinP_take h.1 hx
    have hn1:preP ns i=joinS (ns.take (i + 1)):=rfl
    rw [hdrop]
    unfold dirsF
    rw [hj]
    split
    · rename_i hc
      obtain ⟨m1,m2⟩:=findF_mem hc.1
      rw [hn1]
      exact ih (i + 1) t (by omega) hv (.inr ⟨_,m1,by rw [m2,hn1],hc.2⟩)
    · have hmay:mayF (dirM 493 (preP ns i))=true:=by
        unfold preB at hm
        rw [List.all_eq_true] at hm
        exact may_mode (hm i (List.mem_range.2 (by omega)))
      have hroom:=put_room hv hmay (by
        show Has t (splitF (preP ns i)).1
        rw [preP_split h.1 (by omega)]
        exact hh)
      split
      · rename_i hp
        rcases hroom with ⟨_,hmem⟩ | h5
        · rw [hn1]
          exact ih (i + 1) _ (by omega) (putF_valid hp) (.inr ⟨_,hmem,rfl,rfl⟩)
        · rw [h5] at hp;cases hp
      · rename_i hp
        rcases hroom with ⟨h0,_⟩ | h5
        · exact absurd h0 hp
        · exact .inr h5

theorem node_room {ns:List (List UInt8)} (h:ShN ns) {n:Nd} (hn:n.1=joinS ns) (hm:mayF n=true) (hp:pathB ns=true) {t:List Nd} (hv:Valid t):(nodeF ns t n).2=0∨(nodeF ns t n).2=5:=by
 have hlt:ns.take (ns.length - 1)=ns.dropLast:=List.dropLast_eq_take.symm
 have hpre:preB ns (ns.length - 1)=true:=by
  unfold pathB at hp
  simp only [Bool.and_eq_true,decide_eq_true_eq] at hp
  rw [pre_all hp.2] at hp
  simp only [Bool.and_eq_true] at hp
  exact hp.1.1
 have hd:=dirs_room h (ns.length - 1) (by omega) hpre (ns.length - 1) 0 t (by omega) hv (.inl (by simp [joinS]))
 have ht0:joinS (ns.take 0)=[]:=by simp [joinS]
 rw [List.drop_zero,hlt,ht0] at hd
 unfold nodeF
 rcases hd with ⟨d0,d1⟩ | d5
 ·rw [if_pos d0]
  have hv2:=dirsF_valid _ _ _ hv d0
  rcases put_room hv2 hm (by rw [hn,split_clean h.1];exact d1) with ⟨p0,_⟩ | p5
  ·exact .inl p0
  ·exact .inr p5
 ·rw [if_neg (by rw [d5];decide)]
  exact .inr d5

theorem whatN_node {p:Pt} (hok:(whatN p).2.2=true) (h0:(whatN p).1=0) (hn:(whatN p).2.1 ≠ []):mayF (nodeOf p (joinS (whatN p).2.1))=true∧pathB (whatN p).2.1=true:=by
 have key:∀ (ns:List (List UInt8)) (q:Bool),ns ≠ []→((decide (ns=[]) && q) || (mayF (nodeOf p (joinS ns)) && pathB ns))=true→mayF (nodeOf p (joinS ns))=true∧pathB ns=true:=fun ns q hne hq=>by
  rw [decide_eq_false hne,Bool.false_and,Bool.false_or,Bool.and_eq_true] at hq
  exact hq
 unfold whatN at hok h0 hn ⊢
 split at h0
 ·rename_i hc
  rw [if_pos hc] at hok hn ⊢
  dsimp only at hok h0 hn ⊢
  split at h0
  ·cases h0
  ·rename_i h1
   rw [if_neg h1] at hok hn ⊢
   split at h0
   ·cases h0
   ·rename_i h2
    rw [if_neg h2] at hok hn ⊢
    split at h0
    ·rename_i h3
     rw [if_pos h3] at hok hn ⊢
     exact key _ _ hn hok
    ·rename_i h3
     rw [if_neg h3] at hn
     exact absurd rfl hn
 ·rename_i hc
  rw [if_neg hc] at hn
  exact absurd rfl hn

theorem run_room:∀ (ps:List Pt) (t:List Nd),allOk ps=true→Valid t→(runF ps t).2=0∨(runF ps t).2=5:=by
  intro ps
  induction ps with
  | nil=>intro t _ _;exact .inl rfl
  | cons p r ih =>
    intro t ha hv
    unfold allOk at ha
    simp only [List.all_cons,Bool.and_eq_true] at ha
    unfold runF
    split
    · rename_i hp;exact ih _ ha.2 (putsF_valid hv hp)
    · rename_i hp
      right
      show (putsF t p).2=5
      unfold putsF at hp ⊢
      split
      · rename_i hc
        rw [if_pos hc] at hp
        obtain ⟨m1,m2⟩:=whatN_node ha.1 hc.1 hc.2
        rcases node_room (whatN_sh p) (n:=nodeOf p (joinS (whatN p).2.1)) rfl m1 m2 hv with h0 | h5
        · exact absurd h0 hp
        · exact h5
      · rename_i hc
        rw [if_neg hc] at hp
        exact absurd rfl hp

theorem rd_smps {l:List Pt} (h1:l.length≤64) (h2:∀ q ∈ l,RdP q):SmPs l:=⟨by omega,fun p hp=>h2 p hp⟩

theorem check_any {s:List UInt8} {l:List Pt} {e:Int} (h:P_tar_Read (s,())=some (l,(e,()))) (hl:SmPs l):P_overlay_Check (s,())=some (if e=0∧allOk l=true then 0 else 10,()):=by
 unfold P_overlay_Check
 dsimp only
 rw [h,obind_some]
 dsimp only
 rw [steps_val l hl,obind_some]
 by_cases he:e=0
 ·by_cases ha:allOk l=true
  ·rw [eqI_true he,if_pos ha,if_pos ⟨he,ha⟩];rfl
  ·rw [eqI_true he,if_neg ha,if_neg (fun q=>ha q.2)];rfl
 ·rw [eqI_false he,if_neg (show ¬ (e=0∧allOk l=true) from fun q=>he q.1)]
  by_cases ha:allOk l=true
  ·rw [if_pos ha];rfl
  ·rw [if_neg ha];rfl

theorem apply_any {s:List UInt8} {ps:List Pt} {e:Int} (h:P_tar_Read (s,())=some (ps,(e,()))) (hp:SmPs ps) {l:List Nd} (hv:Valid l):P_overlay_Apply (l,(s,()))=some (if e=0 then ((layF l ps).1,((layF l ps).2,())) else ([],(10,()))):=by
 obtain ⟨c,c1,c2⟩:=check_val' l (valid_sm hv)
 unfold P_overlay_Apply
 dsimp only
 rw [h,obind_some,c1,obind_some]
 dsimp only
 rw [lay_val l ps (valid_sm hv) hp,obind_some,c2.2 hv]
 by_cases he:e=0
 ·rw [eqI_true he,if_pos he];rfl
 ·rw [eqI_false he,if_neg he];rfl

theorem ifawake15 {c:Bool} {x:Option (Bool×Unit)} (h:c=false→x=some (true,())):sel c (obind (P_law15_awake ()) fun y=>some (y.1,())) x=some (true,()):=by
 cases c with
 | true=>rw [sel_true,awake15];rfl
 | false=>rw [sel_false];exact h rfl

end Go.Ge
