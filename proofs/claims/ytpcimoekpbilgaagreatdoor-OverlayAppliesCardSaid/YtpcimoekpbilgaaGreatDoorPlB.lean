/- Plain laws of what the functions compute: part 2. -/
import Derived.Test.YtpcimoekpbilgaaGreatDoorPlA
import Derived.Test.YtpcimoekpbilgaaGreatDoorGeI
/- What the functions of layer 07 compute, as plain programs (written by a program from what the ghost interpreter comes to). -/
namespace Go.Ge
set_option linter.unusedVariables false
set_option maxRecDepth 100000

abbrev S28x0:=(Int×Int×Unit)
abbrev S28x1:=(Bool×Int×Unit)
abbrev S28x2:=(Int×Int×Int×Unit)
abbrev S28x3:=(Nat×S28x0×Unit)
abbrev S28x4:=(Nat×S28x1×Unit)
abbrev S28x5:=(Sb×Int×Unit×Int×Unit)
abbrev S28x6:=(S28x0×Unit)
abbrev S28x7:=((Unit×Sb×Int×Unit)×(List Sb)×Unit)
abbrev S28x8:=(S28x1×Unit)
abbrev S28x9:=((Unit×Int×Unit)×(List Sb)×Unit)
abbrev S28x10:=(Sb×Int×Unit)
noncomputable def P_paths_Parts (x:Sb×Unit):Option ((List Sb)×Unit) :=
 sel (eqS x.1 ([]:List (UInt8)))
 (some (([]:List Sb),()))
 (obind (P_strings_Split (x.1,(([(47:UInt8)]:List (UInt8)),()))) (fun (y1:(List Sb)×Unit)=>some (y1.1,())))

noncomputable def P_paths_isName_L0 (x:Sb×Unit) (y1:S28x1×Unit):Option (S28x8 ⊕ S28x4) :=
 sel (ltI y1.1.2.1 (2:Int))
 (obind (@idx Sb ([([(46:UInt8)]:List (UInt8)),([(46:UInt8),(46:UInt8)]:List (UInt8))]:List Sb) y1.1.2.1) (fun (y2:List (UInt8))=>sel (eqS x.1 y2)
 (some (Sum.inr ((1:Nat),((false,(y1.1.2.1,())),())):(S28x8) ⊕ (S28x4)))
 (some (Sum.inl ((y1.1.1,(iadd IntKind.i64 y1.1.2.1 (1:Int),())),()):(S28x8) ⊕ (S28x4)))))
 (some (Sum.inr ((0:Nat),((y1.1.1,(y1.1.2.1,())),())):(S28x8) ⊕ (S28x4)))

noncomputable def P_paths_isName (x:Sb×Unit):Option (Bool×Unit) :=
 obind (Loop (P_paths_isName_L0 x) ((false,((0:Int),())),())) (fun (y1:Nat×S28x1×Unit)=>sel (eqN y1.1 (0:Nat))
 (obind (sel (sel (leI (1:Int) (@len UInt8 x.1))
 (leI (@len UInt8 x.1) (32:Int))
 false)
 (obind (P_strings_IndexByte (x.1,((0:Int),()))) (fun (y2:Int×Unit)=>some (ltI y2.1 (0:Int))))
 (some false)) (fun (y2:Bool)=>some (y2,())))
 (some (y1.2.1.1,())))

noncomputable def P_strings_HasPrefix (x:Sb×Sb×Unit):Option (Bool×Unit) :=
 obind (P_internal_stringslite_HasPrefix (x.1,(x.2.1,()))) (fun (y1:Bool×Unit)=>some (y1.1,()))

noncomputable def P_paths_Clean_L0 (y1:(List Sb)×Unit) (y2:S28x5×(List Sb)×Unit):Option ((S28x5×(List Sb)×Unit) ⊕ (Nat×S28x5×(List Sb)×Unit)) :=
 sel (ltI y2.1.2.2.2.1 (@len Sb y1.1))
 (obind (@idx Sb y1.1 y2.1.2.2.2.1) (fun (y3:List (UInt8))=>obind (sel (sel (nt (eqS y3 ([]:List (UInt8))))
 (eqS y3 ([(46:UInt8)]:List (UInt8)))
 true)
 (some ((0:Nat),((y2.1.1,(y2.1.2.1,((),()))),(y2.2.1,()))))
 (obind (P_paths_isName (y3,())) (fun (y4:Bool×Unit)=>sel (nt y4.1)
 (some ((1:Nat),((([]:List (UInt8)),((2:Int),((),()))),(y2.2.1,()))))
 (sel (fits (plus (@len Sb y2.2.1) (@len Sb ([y3]:List Sb))))
 (some ((0:Nat),((y2.1.1,(y2.1.2.1,((),()))),(@app Sb y2.2.1 ([y3]:List Sb),()))))
 none)))) (fun (y4:Nat×(Sb×Int×Unit×Unit)×(List Sb)×Unit)=>sel (eqN y4.1 (0:Nat))
 (some (Sum.inl ((y4.2.1.1,(y4.2.1.2.1,((),(iadd IntKind.i64 y2.1.2.2.2.1 (1:Int),())))),(y4.2.2.1,())):((S28x5×(List Sb)×Unit)) ⊕ ((Nat×S28x5×(List Sb)×Unit))))
 (some (Sum.inr ((1:Nat),((y4.2.1.1,(y4.2.1.2.1,((),(y2.1.2.2.2.1,())))),(y4.2.2.1,()))):((S28x5×(List Sb)×Unit)) ⊕ ((Nat×S28x5×(List Sb)×Unit)))))))
 (some (Sum.inr ((0:Nat),((y2.1.1,(y2.1.2.1,((),(y2.1.2.2.2.1,())))),(y2.2.1,()))):((S28x5×(List Sb)×Unit)) ⊕ ((Nat×S28x5×(List Sb)×Unit))))

noncomputable def P_paths_Clean (x:Sb×Unit):Option S28x10 :=
 obind (P_paths_Parts (x.1,())) (fun (y1:(List Sb)×Unit)=>obind (Loop (P_paths_Clean_L0 y1) ((([]:List (UInt8)),((0:Int),((),((0:Int),())))),(([]:List Sb),()))) (fun (y2:Nat×S28x5×(List Sb)×Unit)=>sel (eqN y2.1 (0:Nat))
 (obind (P_strings_Join (y2.2.2.1,(([(47:UInt8)]:List (UInt8)),()))) (fun (y3:Sb×Unit)=>obind (P_strings_HasPrefix (x.1,(([(47:UInt8)]:List (UInt8)),()))) (fun (y4:Bool×Unit)=>sel (sel (nt (sel (nt y4.1)
 (ltI (8:Int) (@len Sb y2.2.2.1))
 true))
 (ltI (96:Int) (@len UInt8 y3.1))
 true)
 (some (([]:List (UInt8)),((2:Int),())))
 (some (y3.1,((0:Int),()))))))
 (some (y2.2.1.1,(y2.2.1.2.1,())))))

noncomputable def P_slices_Index_string_string_L0 (x:(List Sb)×Sb×Unit) (y1:S28x0×Unit):Option (S28x6 ⊕ S28x3) :=
 sel (ltI y1.1.2.1 (@len Sb x.1))
 (obind (@idx Sb x.1 y1.1.2.1) (fun (y2:List (UInt8))=>sel (eqS x.2.1 y2)
 (some (Sum.inr ((1:Nat),((y1.1.2.1,(y1.1.2.1,())),())):(S28x6) ⊕ (S28x3)))
 (some (Sum.inl ((y1.1.1,(iadd IntKind.i64 y1.1.2.1 (1:Int),())),()):(S28x6) ⊕ (S28x3)))))
 (some (Sum.inr ((0:Nat),((y1.1.1,(y1.1.2.1,())),())):(S28x6) ⊕ (S28x3)))

noncomputable def P_slices_Index_string_string (x:(List Sb)×Sb×Unit):Option (Int×Unit) :=
 obind (Loop (P_slices_Index_string_string_L0 x) (((0:Int),((0:Int),())),())) (fun (y1:Nat×S28x0×Unit)=>sel (eqN y1.1 (0:Nat))
 (some ((-1:Int),()))
 (some (y1.2.1.1,())))

noncomputable def P_slices_Contains_string_string (x:(List Sb)×Sb×Unit):Option (Bool×Unit) :=
 obind (P_slices_Index_string_string (x.1,(x.2.1,()))) (fun (y1:Int×Unit)=>some (leI (0:Int) y1.1,()))

noncomputable def P_paths_Mark (x:Sb×Unit):Option (Int×Sb×Unit) :=
 obind (P_strings_CutPrefix (x.1,(([(46:UInt8),(119:UInt8),(104:UInt8),(46:UInt8)]:List (UInt8)),()))) (fun (y1:Sb×Bool×Unit)=>sel (nt y1.2.1)
 (some ((0:Int),(x.1,())))
 (sel (eqS x.1 ([(46:UInt8),(119:UInt8),(104:UInt8),(46:UInt8),(46:UInt8),(119:UInt8),(104:UInt8),(46:UInt8),(46:UInt8),(111:UInt8),(112:UInt8),(113:UInt8)]:List (UInt8)))
 (some ((2:Int),(([]:List (UInt8)),())))
 (obind (P_strings_HasPrefix (y1.1,(([(46:UInt8),(119:UInt8),(104:UInt8),(46:UInt8)]:List (UInt8)),()))) (fun (y2:Bool×Unit)=>obind (sel (nt y2.1)
 (obind (P_slices_Contains_string_string (([([]:List (UInt8)),([(46:UInt8)]:List (UInt8)),([(46:UInt8),(46:UInt8)]:List (UInt8))]:List Sb),(y1.1,()))) (fun (y3:Bool×Unit)=>some y3.1))
 (some true)) (fun (y3:Bool)=>sel y3
 (some ((3:Int),(([]:List (UInt8)),())))
 (some ((1:Int),(y1.1,()))))))))

noncomputable def P_internal_bytealg_LastIndexByteString_L0 (x:Sb×Int×Unit) (y1:S28x0×Unit):Option (S28x6 ⊕ S28x3) :=
 sel (leI (0:Int) y1.1.2.1)
 (obind (@idx UInt8 x.1 y1.1.2.1) (fun (y2:UInt8)=>sel (eqI (u8 y2) x.2.1)
 (some (Sum.inr ((1:Nat),((y1.1.2.1,(y1.1.2.1,())),())):(S28x6) ⊕ (S28x3)))
 (some (Sum.inl ((y1.1.1,(isub IntKind.i64 y1.1.2.1 (1:Int),())),()):(S28x6) ⊕ (S28x3)))))
 (some (Sum.inr ((0:Nat),((y1.1.1,(y1.1.2.1,())),())):(S28x6) ⊕ (S28x3)))

noncomputable def P_internal_bytealg_LastIndexByteString (x:Sb×Int×Unit):Option (Int×Unit) :=
 obind (Loop (P_internal_bytealg_LastIndexByteString_L0 x) (((0:Int),(isub IntKind.i64 (@len UInt8 x.1) (1:Int),())),())) (fun (y1:Nat×S28x0×Unit)=>sel (eqN y1.1 (0:Nat))
 (some ((-1:Int),()))
 (some (y1.2.1.1,())))

noncomputable def P_internal_bytealg_hashStrRev_string_L0 (x:Sb×Unit) (y1:S28x0×Unit):Option (S28x6 ⊕ S28x6) :=
 @way1 S28x6 (sel (leI (0:Int) y1.1.2.1)
 (obind (@idx UInt8 x.1 y1.1.2.1) (fun (y2:UInt8)=>some (Sum.inl ((iadd IntKind.u32 (imul IntKind.u32 y1.1.1 (16777619:Int)) (icv IntKind.u32 (u8 y2)),(isub IntKind.i64 y1.1.2.1 (1:Int),())),()):(S28x6) ⊕ (S28x3))))
 (some (Sum.inr ((0:Nat),((y1.1.1,(y1.1.2.1,())),())):(S28x6) ⊕ (S28x3))))

noncomputable def P_internal_bytealg_hashStrRev_string_L1 (y2:S28x2×Unit):Option ((S28x2×Unit) ⊕ (S28x2×Unit)) :=
 @way1 (S28x2×Unit) (sel (ltI (0:Int) y2.1.2.2.1)
 (sel (ltI (1:Int) (0:Int))
 none
 (some (Sum.inl ((((sel (nt (eqI (iand IntKind.i64 y2.1.2.2.1 (1:Int)) (0:Int)))
 ((imul IntKind.u32 y2.1.1 y2.1.2.1,()),())
 ((y2.1.1,()),())).1).1,(imul IntKind.u32 y2.1.2.1 y2.1.2.1,(ishr IntKind.i64 y2.1.2.2.1 (1:Int),()))),()):((S28x2×Unit)) ⊕ ((Nat×S28x2×Unit)))))
 (some (Sum.inr ((0:Nat),((y2.1.1,(y2.1.2.1,(y2.1.2.2.1,()))),())):((S28x2×Unit)) ⊕ ((Nat×S28x2×Unit)))))

noncomputable def P_internal_bytealg_hashStrRev_string (x:Sb×Unit):Option S28x0 :=
 obind (Loop (P_internal_bytealg_hashStrRev_string_L0 x) (((0:Int),(isub IntKind.i64 (@len UInt8 x.1) (1:Int),())),())) (fun (y1:S28x0×Unit)=>obind (Loop (P_internal_bytealg_hashStrRev_string_L1) (((1:Int),((16777619:Int),(@len UInt8 x.1,()))),())) (fun (y2:S28x2×Unit)=>some (y1.1.1,(y2.1.1,()))))

noncomputable def P_internal_bytealg_LastIndexRabinKarp_string_L0 (x:Sb×Sb×Unit) (y2:S28x0×Unit):Option (S28x6 ⊕ S28x6) :=
 @way1 S28x6 (sel (leI (isub IntKind.i64 (@len UInt8 x.1) (@len UInt8 x.2.1)) y2.1.2.1)
 (obind (@idx UInt8 x.1 y2.1.2.1) (fun (y3:UInt8)=>some (Sum.inl ((iadd IntKind.u32 (imul IntKind.u32 y2.1.1 (16777619:Int)) (icv IntKind.u32 (u8 y3)),(isub IntKind.i64 y2.1.2.1 (1:Int),())),()):(S28x6) ⊕ (S28x3))))
 (some (Sum.inr ((0:Nat),((y2.1.1,(y2.1.2.1,())),())):(S28x6) ⊕ (S28x3))))

noncomputable def P_internal_bytealg_LastIndexRabinKarp_string_L1 (x:Sb×Sb×Unit) (y1:Int×Int×Unit) (y4:S28x2×Unit):Option ((S28x2×Unit) ⊕ (Nat×S28x2×Unit)) :=
 sel (leI (0:Int) y4.1.2.2.1)
 (obind (@idx UInt8 x.1 y4.1.2.2.1) (fun (y5:UInt8)=>obind (@idx UInt8 x.1 (iadd IntKind.i64 y4.1.2.2.1 (@len UInt8 x.2.1))) (fun (y6:UInt8)=>obind (sel (eqI (isub IntKind.u32 (iadd IntKind.u32 (imul IntKind.u32 y4.1.2.1 (16777619:Int)) (icv IntKind.u32 (u8 y5))) (imul IntKind.u32 y1.2.1 (icv IntKind.u32 (u8 y6)))) y1.1)
 (sel (inside y4.1.2.2.1 (iadd IntKind.i64 y4.1.2.2.1 (@len UInt8 x.2.1)) (@len UInt8 x.1))
 (some (eqS (@sub UInt8 x.1 y4.1.2.2.1 (minus (iadd IntKind.i64 y4.1.2.2.1 (@len UInt8 x.2.1)) y4.1.2.2.1)) x.2.1))
 none)
 (some false)) (fun (y7:Bool)=>sel y7
 (some (Sum.inr ((1:Nat),((y4.1.2.2.1,(isub IntKind.u32 (iadd IntKind.u32 (imul IntKind.u32 y4.1.2.1 (16777619:Int)) (icv IntKind.u32 (u8 y5))) (imul IntKind.u32 y1.2.1 (icv IntKind.u32 (u8 y6))),(y4.1.2.2.1,()))),())):((S28x2×Unit)) ⊕ ((Nat×S28x2×Unit))))
 (some (Sum.inl ((y4.1.1,(isub IntKind.u32 (iadd IntKind.u32 (imul IntKind.u32 y4.1.2.1 (16777619:Int)) (icv IntKind.u32 (u8 y5))) (imul IntKind.u32 y1.2.1 (icv IntKind.u32 (u8 y6))),(isub IntKind.i64 y4.1.2.2.1 (1:Int),()))),()):((S28x2×Unit)) ⊕ ((Nat×S28x2×Unit))))))))
 (some (Sum.inr ((0:Nat),((y4.1.1,(y4.1.2.1,(y4.1.2.2.1,()))),())):((S28x2×Unit)) ⊕ ((Nat×S28x2×Unit))))

noncomputable def P_internal_bytealg_LastIndexRabinKarp_string (x:Sb×Sb×Unit):Option (Int×Unit) :=
 obind (P_internal_bytealg_hashStrRev_string (x.2.1,())) (fun (y1:Int×Int×Unit)=>obind (Loop (P_internal_bytealg_LastIndexRabinKarp_string_L0 x) (((0:Int),(isub IntKind.i64 (@len UInt8 x.1) (1:Int),())),())) (fun (y2:S28x0×Unit)=>obind (sel (eqI y2.1.1 y1.1)
 (sel (inside (isub IntKind.i64 (@len UInt8 x.1) (@len UInt8 x.2.1)) (@len UInt8 x.1) (@len UInt8 x.1))
 (some (eqS (@sub UInt8 x.1 (isub IntKind.i64 (@len UInt8 x.1) (@len UInt8 x.2.1)) (minus (@len UInt8 x.1) (isub IntKind.i64 (@len UInt8 x.1) (@len UInt8 x.2.1)))) x.2.1))
 none)
 (some false)) (fun (y3:Bool)=>sel y3
 (some (isub IntKind.i64 (@len UInt8 x.1) (@len UInt8 x.2.1),()))
 (obind (Loop (P_internal_bytealg_LastIndexRabinKarp_string_L1 x y1) (((0:Int),(y2.1.1,(isub IntKind.i64 (isub IntKind.i64 (@len UInt8 x.1) (@len UInt8 x.2.1)) (1:Int),()))),())) (fun (y4:Nat×S28x2×Unit)=>sel (eqN y4.1 (0:Nat))
 (some ((-1:Int),()))
 (some (y4.2.1.1,())))))))

noncomputable def P_strings_LastIndex (x:Sb×Sb×Unit):Option (Int×Unit) :=
 sel (eqI (@len UInt8 x.2.1) (0:Int))
 (some (@len UInt8 x.1,()))
 (sel (eqI (@len UInt8 x.2.1) (1:Int))
 (obind (@idx UInt8 x.2.1 (0:Int)) (fun (y1:UInt8)=>obind (P_internal_bytealg_LastIndexByteString (x.1,(u8 y1,()))) (fun (y2:Int×Unit)=>some (y2.1,()))))
 (sel (eqI (@len UInt8 x.2.1) (@len UInt8 x.1))
 (sel (eqS x.2.1 x.1)
 (some ((0:Int),()))
 (some ((-1:Int),())))
 (sel (ltI (@len UInt8 x.1) (@len UInt8 x.2.1))
 (some ((-1:Int),()))
 (obind (P_internal_bytealg_LastIndexRabinKarp_string (x.1,(x.2.1,()))) (fun (y1:Int×Unit)=>some (y1.1,()))))))

noncomputable def P_paths_Split (x:Sb×Unit):Option (Sb×Sb×Unit) :=
 obind (P_strings_LastIndex (x.1,(([(47:UInt8)]:List (UInt8)),()))) (fun (y1:Int×Unit)=>sel (ltI y1.1 (0:Int))
 (some (([]:List (UInt8)),(x.1,())))
 (sel (inside (0:Int) y1.1 (@len UInt8 x.1))
 (sel (inside (iadd IntKind.i64 y1.1 (1:Int)) (@len UInt8 x.1) (@len UInt8 x.1))
 (some (@sub UInt8 x.1 (0:Int) (minus y1.1 (0:Int)),(@sub UInt8 x.1 (iadd IntKind.i64 y1.1 (1:Int)) (minus (@len UInt8 x.1) (iadd IntKind.i64 y1.1 (1:Int))),())))
 none)
 none))

noncomputable def P_slices_Equal_string_string_L0 (x:(List Sb)×(List Sb)×Unit) (y1:S28x1×Unit):Option (S28x8 ⊕ S28x4) :=
 sel (ltI y1.1.2.1 (@len Sb x.1))
 (obind (@idx Sb x.1 y1.1.2.1) (fun (y2:List (UInt8))=>obind (@idx Sb x.2.1 y1.1.2.1) (fun (y3:List (UInt8))=>sel (nt (eqS y2 y3))
 (some (Sum.inr ((1:Nat),((false,(y1.1.2.1,())),())):(S28x8) ⊕ (S28x4)))
 (some (Sum.inl ((y1.1.1,(iadd IntKind.i64 y1.1.2.1 (1:Int),())),()):(S28x8) ⊕ (S28x4))))))
 (some (Sum.inr ((0:Nat),((y1.1.1,(y1.1.2.1,())),())):(S28x8) ⊕ (S28x4)))

noncomputable def P_slices_Equal_string_string (x:(List Sb)×(List Sb)×Unit):Option (Bool×Unit) :=
 sel (nt (eqI (@len Sb x.1) (@len Sb x.2.1)))
 (some (false,()))
 (obind (Loop (P_slices_Equal_string_string_L0 x) ((false,((0:Int),())),())) (fun (y1:Nat×S28x1×Unit)=>sel (eqN y1.1 (0:Nat))
 (some (true,()))
 (some (y1.2.1.1,()))))

noncomputable def P_paths_Under (x:Sb×Sb×Unit):Option (Bool×Unit) :=
 obind (P_paths_Parts (x.1,())) (fun (y1:(List Sb)×Unit)=>obind (P_paths_Parts (x.2.1,())) (fun (y2:(List Sb)×Unit)=>obind (sel (ltI (@len Sb y2.1) (@len Sb y1.1))
 (sel (inside (0:Int) (@len Sb y2.1) (@len Sb y1.1))
 (obind (P_slices_Equal_string_string (@sub Sb y1.1 (0:Int) (minus (@len Sb y2.1) (0:Int)),(y2.1,()))) (fun (y3:Bool×Unit)=>some y3.1))
 none)
 (some false)) (fun (y3:Bool)=>some (y3,()))))

noncomputable def P_cmp_isNaN_string (x:Sb×Unit):Option (Bool×Unit) :=
 some (nt (eqS x.1 x.1),())

noncomputable def P_cmp_Compare_string (x:Sb×Sb×Unit):Option (Int×Unit) :=
 obind (P_cmp_isNaN_string (x.1,())) (fun (y1:Bool×Unit)=>obind (P_cmp_isNaN_string (x.2.1,())) (fun (y2:Bool×Unit)=>sel y1.1
 (sel y2.1
 (some ((0:Int),()))
 (some ((-1:Int),())))
 (sel y2.1
 (some ((1:Int),()))
 (sel (ltS x.1 x.2.1)
 (some ((-1:Int),()))
 (sel (nt (oor (ltS x.1 x.2.1) (eqS x.1 x.2.1)))
 (some ((1:Int),()))
 (some ((0:Int),())))))))

noncomputable def P_paths_Compare_L0 (y1:(List Sb)×Unit) (y2:(List Sb)×Unit) (y3:S28x0×Unit):Option (S28x6 ⊕ S28x3) :=
 sel (ltI y3.1.2.1 (@len Sb y1.1))
 (obind (@idx Sb y1.1 y3.1.2.1) (fun (y4:List (UInt8))=>sel (leI (@len Sb y2.1) y3.1.2.1)
 (some (Sum.inr ((1:Nat),(((1:Int),(y3.1.2.1,())),())):(S28x6) ⊕ (S28x3)))
 (obind (@idx Sb y2.1 y3.1.2.1) (fun (y5:List (UInt8))=>obind (P_cmp_Compare_string (y4,(y5,()))) (fun (y6:Int×Unit)=>sel (nt (eqI y6.1 (0:Int)))
 (some (Sum.inr ((1:Nat),((y6.1,(y3.1.2.1,())),())):(S28x6) ⊕ (S28x3)))
 (some (Sum.inl ((y3.1.1,(iadd IntKind.i64 y3.1.2.1 (1:Int),())),()):(S28x6) ⊕ (S28x3))))))))
 (some (Sum.inr ((0:Nat),((y3.1.1,(y3.1.2.1,())),())):(S28x6) ⊕ (S28x3)))

noncomputable def P_paths_Compare (x:Sb×Sb×Unit):Option (Int×Unit) :=
 obind (P_paths_Parts (x.1,())) (fun (y1:(List Sb)×Unit)=>obind (P_paths_Parts (x.2.1,())) (fun (y2:(List Sb)×Unit)=>obind (Loop (P_paths_Compare_L0 y1 y2) (((0:Int),((0:Int),())),())) (fun (y3:Nat×S28x0×Unit)=>sel (eqN y3.1 (0:Nat))
 (sel (ltI (@len Sb y1.1) (@len Sb y2.1))
 (some ((-1:Int),()))
 (some ((0:Int),())))
 (some (y3.2.1.1,())))))

noncomputable def P_ref07_Parts_L0 (x:Sb×Unit) (y1:(Unit×Sb×Int×Unit)×(List Sb)×Unit):Option (S28x7 ⊕ S28x7) :=
 @way1 S28x7 (sel (ltI y1.1.2.2.1 (@len UInt8 x.1))
 (obind (@idx UInt8 x.1 y1.1.2.2.1) (fun (y2:UInt8)=>obind (sel (eqI (u8 y2) (47:Int))
 (sel (fits (plus (@len Sb y1.2.1) (@len Sb ([y1.1.2.1]:List Sb))))
 (some (((),(([]:List (UInt8)),())),(@app Sb y1.2.1 ([y1.1.2.1]:List Sb),())))
 none)
 (sel (inside y1.1.2.2.1 (iadd IntKind.i64 y1.1.2.2.1 (1:Int)) (@len UInt8 x.1))
 (sel (fits (plus (@len UInt8 y1.1.2.1) (@len UInt8 (@sub UInt8 x.1 y1.1.2.2.1 (minus (iadd IntKind.i64 y1.1.2.2.1 (1:Int)) y1.1.2.2.1)))))
 (some (((),(@app UInt8 y1.1.2.1 (@sub UInt8 x.1 y1.1.2.2.1 (minus (iadd IntKind.i64 y1.1.2.2.1 (1:Int)) y1.1.2.2.1)),())),(y1.2.1,())))
 none)
 none)) (fun (y3:(Unit×Sb×Unit)×(List Sb)×Unit)=>some (Sum.inl (((),(y3.1.2.1,(iadd IntKind.i64 y1.1.2.2.1 (1:Int),()))),(y3.2.1,())):(S28x7) ⊕ ((Nat×(Unit×Sb×Int×Unit)×(List Sb)×Unit))))))
 (some (Sum.inr ((0:Nat),(((),(y1.1.2.1,(y1.1.2.2.1,()))),(y1.2.1,()))):(S28x7) ⊕ ((Nat×(Unit×Sb×Int×Unit)×(List Sb)×Unit)))))

noncomputable def P_ref07_Parts (x:Sb×Unit):Option ((List Sb)×Unit) :=
 sel (eqS x.1 ([]:List (UInt8)))
 (some (([]:List Sb),()))
 (obind (Loop (P_ref07_Parts_L0 x) (((),(([]:List (UInt8)),((0:Int),()))),(([]:List Sb),()))) (fun (y1:(Unit×Sb×Int×Unit)×(List Sb)×Unit)=>sel (fits (plus (@len Sb y1.2.1) (@len Sb ([y1.1.2.1]:List Sb))))
 (some (@app Sb y1.2.1 ([y1.1.2.1]:List Sb),()))
 none))

noncomputable def P_ref07_join_L0 (x:(List Sb)×Unit) (y1:S28x10×Unit):Option ((S28x10×Unit) ⊕ (S28x10×Unit)) :=
 @way1 (S28x10×Unit) (sel (ltI y1.1.2.1 (@len Sb x.1))
 (obind (sel (ltI (0:Int) y1.1.2.1)
 (sel (fits (plus (@len UInt8 y1.1.1) (@len UInt8 ([(47:UInt8)]:List (UInt8)))))
 (some ((@app UInt8 y1.1.1 ([(47:UInt8)]:List (UInt8)),()),()))
 none)
 (some ((y1.1.1,()),()))) (fun (y2:(Sb×Unit)×Unit)=>obind (@idx Sb x.1 y1.1.2.1) (fun (y3:List (UInt8))=>sel (fits (plus (@len UInt8 y2.1.1) (@len UInt8 y3)))
 (some (Sum.inl ((@app UInt8 y2.1.1 y3,(iadd IntKind.i64 y1.1.2.1 (1:Int),())),()):((S28x10×Unit)) ⊕ ((Nat×S28x10×Unit))))
 none)))
 (some (Sum.inr ((0:Nat),((y1.1.1,(y1.1.2.1,())),())):((S28x10×Unit)) ⊕ ((Nat×S28x10×Unit)))))

noncomputable def P_ref07_join (x:(List Sb)×Unit):Option (Sb×Unit) :=
 obind (Loop (P_ref07_join_L0 x) ((([]:List (UInt8)),((0:Int),())),())) (fun (y1:S28x10×Unit)=>some (y1.1.1,()))

noncomputable def P_ref07_isName_L0 (x:Sb×Unit) (y1:S28x1×Unit):Option (S28x8 ⊕ S28x4) :=
 sel (ltI y1.1.2.1 (@len UInt8 x.1))
 (obind (@idx UInt8 x.1 y1.1.2.1) (fun (y2:UInt8)=>obind (sel (nt (eqI (u8 y2) (0:Int)))
 (obind (@idx UInt8 x.1 y1.1.2.1) (fun (y3:UInt8)=>some (eqI (u8 y3) (47:Int))))
 (some true)) (fun (y3:Bool)=>sel y3
 (some (Sum.inr ((1:Nat),((false,(y1.1.2.1,())),())):(S28x8) ⊕ (S28x4)))
 (some (Sum.inl ((y1.1.1,(iadd IntKind.i64 y1.1.2.1 (1:Int),())),()):(S28x8) ⊕ (S28x4))))))
 (some (Sum.inr ((0:Nat),((y1.1.1,(y1.1.2.1,())),())):(S28x8) ⊕ (S28x4)))

noncomputable def P_ref07_isName (x:Sb×Unit):Option (Bool×Unit) :=
 obind (Loop (P_ref07_isName_L0 x) ((false,((0:Int),())),())) (fun (y1:Nat×S28x1×Unit)=>sel (eqN y1.1 (0:Nat))
 (some (sel (sel (sel (leI (1:Int) (@len UInt8 x.1))
 (leI (@len UInt8 x.1) (32:Int))
 false)
 (nt (eqS x.1 ([(46:UInt8)]:List (UInt8))))
 false)
 (nt (eqS x.1 ([(46:UInt8),(46:UInt8)]:List (UInt8))))
 false,()))
 (some (y1.2.1.1,())))

noncomputable def P_ref07_Is_L0 (y1:(List Sb)×Unit) (y2:S28x1×Unit):Option (S28x8 ⊕ S28x4) :=
 sel (ltI y2.1.2.1 (@len Sb y1.1))
 (obind (@idx Sb y1.1 y2.1.2.1) (fun (y3:List (UInt8))=>obind (P_ref07_isName (y3,())) (fun (y4:Bool×Unit)=>sel (nt y4.1)
 (some (Sum.inr ((1:Nat),((false,(y2.1.2.1,())),())):(S28x8) ⊕ (S28x4)))
 (some (Sum.inl ((y2.1.1,(iadd IntKind.i64 y2.1.2.1 (1:Int),())),()):(S28x8) ⊕ (S28x4))))))
 (some (Sum.inr ((0:Nat),((y2.1.1,(y2.1.2.1,())),())):(S28x8) ⊕ (S28x4)))

noncomputable def P_ref07_Is (x:Sb×Unit):Option (Bool×Unit) :=
 obind (P_ref07_Parts (x.1,())) (fun (y1:(List Sb)×Unit)=>obind (Loop (P_ref07_Is_L0 y1) ((false,((0:Int),())),())) (fun (y2:Nat×S28x1×Unit)=>sel (eqN y2.1 (0:Nat))
 (some (sel (leI (@len Sb y1.1) (8:Int))
 (leI (@len UInt8 x.1) (96:Int))
 false,()))
 (some (y2.2.1.1,()))))

noncomputable def P_ref07_Clean_L0 (y1:(List Sb)×Unit) (y2:(Unit×Int×Unit)×(List Sb)×Unit):Option (S28x9 ⊕ S28x9) :=
 @way1 S28x9 (sel (ltI y2.1.2.1 (@len Sb y1.1))
 (obind (@idx Sb y1.1 y2.1.2.1) (fun (y3:List (UInt8))=>obind (sel (nt (eqS y3 ([]:List (UInt8))))
 (obind (@idx Sb y1.1 y2.1.2.1) (fun (y4:List (UInt8))=>some (nt (eqS y4 ([(46:UInt8)]:List (UInt8))))))
 (some false)) (fun (y4:Bool)=>obind (sel y4
 (obind (@idx Sb y1.1 y2.1.2.1) (fun (y5:List (UInt8))=>sel (fits (plus (@len Sb y2.2.1) (@len Sb ([y5]:List Sb))))
 (some (((),()),(@app Sb y2.2.1 ([y5]:List Sb),())))
 none))
 (some (((),()),(y2.2.1,())))) (fun (y5:(Unit×Unit)×(List Sb)×Unit)=>some (Sum.inl (((),(iadd IntKind.i64 y2.1.2.1 (1:Int),())),(y5.2.1,())):(S28x9) ⊕ ((Nat×(Unit×Int×Unit)×(List Sb)×Unit)))))))
 (some (Sum.inr ((0:Nat),(((),(y2.1.2.1,())),(y2.2.1,()))):(S28x9) ⊕ ((Nat×(Unit×Int×Unit)×(List Sb)×Unit)))))

noncomputable def P_ref07_Clean (x:Sb×Unit):Option S28x10 :=
 obind (P_ref07_Parts (x.1,())) (fun (y1:(List Sb)×Unit)=>obind (Loop (P_ref07_Clean_L0 y1) (((),((0:Int),())),(([]:List Sb),()))) (fun (y2:(Unit×Int×Unit)×(List Sb)×Unit)=>obind (P_ref07_join (y2.2.1,())) (fun (y3:Sb×Unit)=>obind (sel (nt (eqS x.1 ([]:List (UInt8))))
 (obind (@idx UInt8 x.1 (0:Int)) (fun (y4:UInt8)=>some (eqI (u8 y4) (47:Int))))
 (some false)) (fun (y4:Bool)=>obind (sel (nt y4)
 (obind (P_ref07_Is (y3.1,())) (fun (y5:Bool×Unit)=>some (nt y5.1)))
 (some true)) (fun (y5:Bool)=>sel y5
 (some (([]:List (UInt8)),((2:Int),())))
 (some (y3.1,((0:Int),()))))))))

noncomputable def P_ref07_begins (x:Sb×Sb×Unit):Option (Bool×Unit) :=
 obind (sel (leI (@len UInt8 x.2.1) (@len UInt8 x.1))
 (sel (inside (0:Int) (@len UInt8 x.2.1) (@len UInt8 x.1))
 (some (eqS (@sub UInt8 x.1 (0:Int) (minus (@len UInt8 x.2.1) (0:Int))) x.2.1))
 none)
 (some false)) (fun (y1:Bool)=>some (y1,()))

noncomputable def P_ref07_Mark (x:Sb×Unit):Option (Int×Sb×Unit) :=
 sel (eqS x.1 ([(46:UInt8),(119:UInt8),(104:UInt8),(46:UInt8),(46:UInt8),(119:UInt8),(104:UInt8),(46:UInt8),(46:UInt8),(111:UInt8),(112:UInt8),(113:UInt8)]:List (UInt8)))
 (some ((2:Int),(([]:List (UInt8)),())))
 (obind (P_ref07_begins (x.1,(([(46:UInt8),(119:UInt8),(104:UInt8),(46:UInt8),(46:UInt8),(119:UInt8),(104:UInt8),(46:UInt8)]:List (UInt8)),()))) (fun (y1:Bool×Unit)=>sel (sel (nt (sel (nt (sel (nt y1.1)
 (eqS x.1 ([(46:UInt8),(119:UInt8),(104:UInt8),(46:UInt8)]:List (UInt8)))
 true))
 (eqS x.1 ([(46:UInt8),(119:UInt8),(104:UInt8),(46:UInt8),(46:UInt8)]:List (UInt8)))
 true))
 (eqS x.1 ([(46:UInt8),(119:UInt8),(104:UInt8),(46:UInt8),(46:UInt8),(46:UInt8)]:List (UInt8)))
 true)
 (some ((3:Int),(([]:List (UInt8)),())))
 (obind (P_ref07_begins (x.1,(([(46:UInt8),(119:UInt8),(104:UInt8),(46:UInt8)]:List (UInt8)),()))) (fun (y2:Bool×Unit)=>sel y2.1
 (sel (inside (4:Int) (@len UInt8 x.1) (@len UInt8 x.1))
 (some ((1:Int),(@sub UInt8 x.1 (4:Int) (minus (@len UInt8 x.1) (4:Int)),())))
 none)
 (some ((0:Int),(x.1,())))))))

noncomputable def P_ref07_Split (x:Sb×Unit):Option (Sb×Sb×Unit) :=
 obind (P_ref07_Parts (x.1,())) (fun (y1:(List Sb)×Unit)=>sel (eqI (@len Sb y1.1) (0:Int))
 (some (([]:List (UInt8)),(([]:List (UInt8)),())))
 (sel (inside (0:Int) (isub IntKind.i64 (@len Sb y1.1) (1:Int)) (@len Sb y1.1))
 (obind (P_ref07_join (@sub Sb y1.1 (0:Int) (minus (isub IntKind.i64 (@len Sb y1.1) (1:Int)) (0:Int)),())) (fun (y2:Sb×Unit)=>obind (@idx Sb y1.1 (isub IntKind.i64 (@len Sb y1.1) (1:Int))) (fun (y3:List (UInt8))=>some (y2.1,(y3,())))))
 none))

noncomputable def P_paths_Join (x:Sb×Sb×Unit):Option (Sb×Unit) :=
 sel (sel (nt (eqS x.1 ([]:List (UInt8))))
 (eqS x.2.1 ([]:List (UInt8)))
 true)
 (sel (fits (plus (@len UInt8 x.1) (@len UInt8 x.2.1)))
 (some (@app UInt8 x.1 x.2.1,()))
 none)
 (sel (fits (plus (@len UInt8 x.1) (@len UInt8 ([(47:UInt8)]:List (UInt8)))))
 (sel (fits (plus (@len UInt8 (@app UInt8 x.1 ([(47:UInt8)]:List (UInt8)))) (@len UInt8 x.2.1)))
 (some (@app UInt8 (@app UInt8 x.1 ([(47:UInt8)]:List (UInt8))) x.2.1,()))
 none)
 none)

noncomputable def P_ref07_Join (x:Sb×Sb×Unit):Option (Sb×Unit) :=
 sel (eqS x.1 ([]:List (UInt8)))
 (some (x.2.1,()))
 (sel (eqS x.2.1 ([]:List (UInt8)))
 (some (x.1,()))
 (sel (fits (plus (@len UInt8 x.1) (@len UInt8 ([(47:UInt8)]:List (UInt8)))))
 (sel (fits (plus (@len UInt8 (@app UInt8 x.1 ([(47:UInt8)]:List (UInt8)))) (@len UInt8 x.2.1)))
 (some (@app UInt8 (@app UInt8 x.1 ([(47:UInt8)]:List (UInt8))) x.2.1,()))
 none)
 none))

noncomputable def P_ref07_Under_L0 (y1:(List Sb)×Unit) (y2:(List Sb)×Unit) (y3:S28x1×Unit):Option (S28x8 ⊕ S28x4) :=
 sel (sel (ltI y3.1.2.1 (@len Sb y2.1))
 (ltI y3.1.2.1 (@len Sb y1.1))
 false)
 (obind (@idx Sb y1.1 y3.1.2.1) (fun (y4:List (UInt8))=>obind (@idx Sb y2.1 y3.1.2.1) (fun (y5:List (UInt8))=>sel (nt (eqS y4 y5))
 (some (Sum.inr ((1:Nat),((false,(y3.1.2.1,())),())):(S28x8) ⊕ (S28x4)))
 (some (Sum.inl ((y3.1.1,(iadd IntKind.i64 y3.1.2.1 (1:Int),())),()):(S28x8) ⊕ (S28x4))))))
 (some (Sum.inr ((0:Nat),((y3.1.1,(y3.1.2.1,())),())):(S28x8) ⊕ (S28x4)))

noncomputable def P_ref07_Under (x:Sb×Sb×Unit):Option (Bool×Unit) :=
 obind (P_ref07_Parts (x.1,())) (fun (y1:(List Sb)×Unit)=>obind (P_ref07_Parts (x.2.1,())) (fun (y2:(List Sb)×Unit)=>sel (leI (@len Sb y1.1) (@len Sb y2.1))
 (some (false,()))
 (obind (Loop (P_ref07_Under_L0 y1 y2) ((false,((0:Int),())),())) (fun (y3:Nat×S28x1×Unit)=>sel (eqN y3.1 (0:Nat))
 (some (true,()))
 (some (y3.2.1.1,()))))))

noncomputable def P_ref07_Compare_L0 (y1:(List Sb)×Unit) (y2:(List Sb)×Unit) (y3:S28x0×Unit):Option (S28x6 ⊕ S28x3) :=
 sel (sel (ltI y3.1.2.1 (@len Sb y1.1))
 (ltI y3.1.2.1 (@len Sb y2.1))
 false)
 (obind (@idx Sb y1.1 y3.1.2.1) (fun (y4:List (UInt8))=>obind (@idx Sb y2.1 y3.1.2.1) (fun (y5:List (UInt8))=>sel (ltS y4 y5)
 (some (Sum.inr ((1:Nat),(((-1:Int),(y3.1.2.1,())),())):(S28x6) ⊕ (S28x3)))
 (obind (@idx Sb y1.1 y3.1.2.1) (fun (y6:List (UInt8))=>obind (@idx Sb y2.1 y3.1.2.1) (fun (y7:List (UInt8))=>sel (nt (oor (ltS y6 y7) (eqS y6 y7)))
 (some (Sum.inr ((1:Nat),(((1:Int),(y3.1.2.1,())),())):(S28x6) ⊕ (S28x3)))
 (some (Sum.inl ((y3.1.1,(iadd IntKind.i64 y3.1.2.1 (1:Int),())),()):(S28x6) ⊕ (S28x3)))))))))
 (some (Sum.inr ((0:Nat),((y3.1.1,(y3.1.2.1,())),())):(S28x6) ⊕ (S28x3)))

noncomputable def P_ref07_Compare (x:Sb×Sb×Unit):Option (Int×Unit) :=
 obind (P_ref07_Parts (x.1,())) (fun (y1:(List Sb)×Unit)=>obind (P_ref07_Parts (x.2.1,())) (fun (y2:(List Sb)×Unit)=>obind (Loop (P_ref07_Compare_L0 y1 y2) (((0:Int),((0:Int),())),())) (fun (y3:Nat×S28x0×Unit)=>sel (eqN y3.1 (0:Nat))
 (sel (ltI (@len Sb y1.1) (@len Sb y2.1))
 (some ((-1:Int),()))
 (sel (ltI (@len Sb y2.1) (@len Sb y1.1))
 (some ((1:Int),()))
 (some ((0:Int),()))))
 (some (y3.2.1.1,())))))

end Go.Ge

/- What the functions of layer 01 compute, as plain programs (written by a program from what the ghost interpreter comes to). -/
namespace Go.Ge
set_option linter.unusedVariables false
set_option maxRecDepth 100000

abbrev S29x0:=(Int×Bool×Int×Int×Unit)
noncomputable def P_ref01_FromOctal_L0 (x:Sb×Unit) (y1:S29x0×Unit):Option ((S29x0×Unit) ⊕ (Nat×S29x0×Unit)) :=
 sel (ltI y1.1.2.2.2.1 (@len UInt8 x.1))
 (obind (@idx UInt8 x.1 y1.1.2.2.2.1) (fun (y2:UInt8)=>obind (sel (nt (ltI (u8 y2) (48:Int)))
 (obind (@idx UInt8 x.1 y1.1.2.2.2.1) (fun (y3:UInt8)=>some (ltI (55:Int) (u8 y3))))
 (some true)) (fun (y3:Bool)=>sel (sel (nt y3)
 (ltI (1152921504606846975:Int) y1.1.2.2.1)
 true)
 (some (Sum.inr ((1:Nat),(((0:Int),(false,(y1.1.2.2.1,(y1.1.2.2.2.1,())))),())):((S29x0×Unit)) ⊕ ((Nat×S29x0×Unit))))
 (obind (@idx UInt8 x.1 y1.1.2.2.2.1) (fun (y4:UInt8)=>some (Sum.inl ((y1.1.1,(y1.1.2.1,(iadd IntKind.i64 (imul IntKind.i64 (8:Int) y1.1.2.2.1) (icv IntKind.i64 (isub IntKind.u8 (u8 y4) (48:Int))),(iadd IntKind.i64 y1.1.2.2.2.1 (1:Int),())))),()):((S29x0×Unit)) ⊕ ((Nat×S29x0×Unit))))))))
 (some (Sum.inr ((0:Nat),((y1.1.1,(y1.1.2.1,(y1.1.2.2.1,(y1.1.2.2.2.1,())))),())):((S29x0×Unit)) ⊕ ((Nat×S29x0×Unit))))

noncomputable def P_ref01_FromOctal (x:Sb×Unit):Option (Int×Bool×Unit) :=
 sel (sel (nt (ltI (@len UInt8 x.1) (1:Int)))
 (ltI (21:Int) (@len UInt8 x.1))
 true)
 (some ((0:Int),(false,())))
 (obind (Loop (P_ref01_FromOctal_L0 x) (((0:Int),(false,((0:Int),((0:Int),())))),())) (fun (y1:Nat×S29x0×Unit)=>sel (eqN y1.1 (0:Nat))
 (some (y1.2.1.2.2.1,(true,())))
 (some (y1.2.1.1,(y1.2.1.2.1,())))))

end Go.Ge

/- What the functions of layer 14z compute, as plain programs (written by a program from what the ghost interpreter comes to). -/
namespace Go.Ge
set_option linter.unusedVariables false
set_option maxRecDepth 100000

abbrev S30x0:=(Sb×Int×Int×Sb×Sb×Unit)
abbrev S30x1:=(Bool×Int×Unit)
abbrev S30x2:=(Int×Int×Unit)
abbrev S30x3:=((Int×Int×Unit×Unit)×Unit×Sb×(List S30x0)×Unit)
abbrev S30x4:=(Nat×S30x1×Unit)
abbrev S30x5:=((Nat×(Int×Int×Unit×Unit)×Unit×Sb×(List S30x0)×Unit))
abbrev S30x6:=(Nat×S30x2×Unit)
abbrev S30x7:=((Unit×Int×Unit)×(List S30x0)×Unit)
abbrev S30x8:=((List UInt8)×(Int×(Int×((List UInt8)×((List UInt8)×Unit)))))
abbrev S30x9:=(S30x1×Unit)
abbrev S30x10:=(S30x2×Unit)
noncomputable def P_slices_Insert_api_TreeNode_api_TreeNode (l:List S30x8) (x:(Int×((List S30x8)×Unit))):Option (List S30x8):=insL l x.1 x.2.1

noncomputable def P_ref14_Few_L0 (x:(List S30x0)×Int×Unit) (y1:S30x1×Unit):Option (S30x9 ⊕ S30x4) :=
 sel (sel (ltI y1.1.2.1 (@len S30x0 x.1))
 (ltI y1.1.2.1 x.2.1)
 false)
 (obind (@idx S30x0 x.1 y1.1.2.1) (fun (y2:Sb×Int×Int×Sb×Sb×Unit)=>obind (sel (nt (ltI (200:Int) (@len UInt8 y2.1)))
 (obind (@idx S30x0 x.1 y1.1.2.1) (fun (y3:Sb×Int×Int×Sb×Sb×Unit)=>some (ltI (200:Int) (@len UInt8 y3.2.2.2.2.1))))
 (some true)) (fun (y3:Bool)=>obind (sel (nt y3)
 (obind (@idx S30x0 x.1 y1.1.2.1) (fun (y4:Sb×Int×Int×Sb×Sb×Unit)=>some (ltI (1024:Int) (@len UInt8 y4.2.2.2.1))))
 (some true)) (fun (y4:Bool)=>sel y4
 (some (Sum.inr ((1:Nat),((false,(y1.1.2.1,())),())):(S30x9) ⊕ (S30x4)))
 (some (Sum.inl ((y1.1.1,(iadd IntKind.i64 y1.1.2.1 (1:Int),())),()):(S30x9) ⊕ (S30x4)))))))
 (some (Sum.inr ((0:Nat),((y1.1.1,(y1.1.2.1,())),())):(S30x9) ⊕ (S30x4)))

noncomputable def P_ref14_Few (x:(List S30x0)×Int×Unit):Option (Bool×Unit) :=
 obind (Loop (P_ref14_Few_L0 x) ((false,((0:Int),())),())) (fun (y1:Nat×S30x1×Unit)=>sel (eqN y1.1 (0:Nat))
 (some (leI (@len S30x0 x.1) x.2.1,()))
 (some (y1.2.1.1,())))

noncomputable def P_tree_isPath (x:Sb×Unit):Option (Bool×Unit) :=
 obind (P_paths_Clean (x.1,())) (fun (y1:Sb×Int×Unit)=>obind (P_paths_Split (x.1,())) (fun (y2:Sb×Sb×Unit)=>obind (P_paths_Mark (y2.2.1,())) (fun (y3:Int×Sb×Unit)=>some (sel (sel (sel (sel (eqI y1.2.1 (0:Int))
 (eqS y1.1 x.1)
 false)
 (nt (eqS x.1 ([]:List (UInt8))))
 false)
 (sel (leI (@len UInt8 x.1) (92:Int))
 (leI (@len UInt8 y2.2.1) (28:Int))
 false)
 false)
 (eqI y3.1 (0:Int))
 false,()))))

noncomputable def P_tree_is (x:S30x0×Unit):Option (Bool×Unit) :=
 obind (P_tree_isPath (x.1.1,())) (fun (y1:Bool×Unit)=>sel (sel (nt (sel (nt (nt y1.1))
 (ltI x.1.2.2.1 (0:Int))
 true))
 (ltI (4095:Int) x.1.2.2.1)
 true)
 (some (false,()))
 (sel (eqI x.1.2.1 (1:Int))
 (some (sel (eqS x.1.2.2.2.2.1 ([]:List (UInt8)))
 (leI (@len UInt8 x.1.2.2.2.1) (8192:Int))
 false,()))
 (sel (eqI x.1.2.1 (2:Int))
 (some (sel (eqS x.1.2.2.2.2.1 ([]:List (UInt8)))
 (eqS x.1.2.2.2.1 ([]:List (UInt8)))
 false,()))
 (sel (eqI x.1.2.1 (3:Int))
 (obind (sel (sel (sel (eqS x.1.2.2.2.1 ([]:List (UInt8)))
 (nt (eqS x.1.2.2.2.2.1 ([]:List (UInt8))))
 false)
 (leI (@len UInt8 x.1.2.2.2.2.1) (100:Int))
 false)
 (obind (P_strings_IndexByte (x.1.2.2.2.2.1,((0:Int),()))) (fun (y2:Int×Unit)=>some (ltI y2.1 (0:Int))))
 (some false)) (fun (y2:Bool)=>some (y2,())))
 (some (false,()))))))

noncomputable def P_tree_place_c1 (x:S30x0×Sb×Unit):Option (Int×Unit) :=
 obind (P_paths_Compare (x.1.1,(x.2.1,()))) (fun (y1:Int×Unit)=>some (y1.1,()))

noncomputable def P_tree_place_L0 (x:(List S30x0)×Sb×Unit) (y1:S30x2×Unit):Option (S30x10 ⊕ S30x10) :=
 @way1 S30x10 (sel (ltI y1.1.1 y1.1.2.1)
 (sel (ltI (1:Int) (0:Int))
 none
 (obind (@idx S30x0 x.1 (icv IntKind.i64 (ishr IntKind.u64 (icv IntKind.u64 (iadd IntKind.i64 y1.1.1 y1.1.2.1)) (1:Int)))) (fun (y2:Sb×Int×Int×Sb×Sb×Unit)=>obind (P_tree_place_c1 (y2,(x.2.1,()))) (fun (y3:Int×Unit)=>some (Sum.inl ((((sel (ltI y3.1 (0:Int))
 ((iadd IntKind.i64 (icv IntKind.i64 (ishr IntKind.u64 (icv IntKind.u64 (iadd IntKind.i64 y1.1.1 y1.1.2.1)) (1:Int))) (1:Int),(y1.1.2.1,())),())
 ((y1.1.1,(icv IntKind.i64 (ishr IntKind.u64 (icv IntKind.u64 (iadd IntKind.i64 y1.1.1 y1.1.2.1)) (1:Int)),())),())).1).1,((((sel (ltI y3.1 (0:Int))
 ((iadd IntKind.i64 (icv IntKind.i64 (ishr IntKind.u64 (icv IntKind.u64 (iadd IntKind.i64 y1.1.1 y1.1.2.1)) (1:Int))) (1:Int),(y1.1.2.1,())),())
 ((y1.1.1,(icv IntKind.i64 (ishr IntKind.u64 (icv IntKind.u64 (iadd IntKind.i64 y1.1.1 y1.1.2.1)) (1:Int)),())),())).1).2).1,())),()):(S30x10) ⊕ (S30x6))))))
 (some (Sum.inr ((0:Nat),((y1.1.1,(y1.1.2.1,())),())):(S30x10) ⊕ (S30x6))))

noncomputable def P_tree_place (x:(List S30x0)×Sb×Unit):Option (Int×Bool×Unit) :=
 obind (Loop (P_tree_place_L0 x) (((0:Int),(@len S30x0 x.1,())),())) (fun (y1:S30x2×Unit)=>sel (ltI y1.1.1 (@len S30x0 x.1))
 (obind (@idx S30x0 x.1 y1.1.1) (fun (y2:Sb×Int×Int×Sb×Sb×Unit)=>obind (P_tree_place_c1 (y2,(x.2.1,()))) (fun (y3:Int×Unit)=>some (y1.1.1,(eqI y3.1 (0:Int),())))))
 (some (y1.1.1,(false,()))))

noncomputable def P_tree_dir (x:(List S30x0)×Sb×Unit):Option (Int×Unit) :=
 sel (eqS x.2.1 ([]:List (UInt8)))
 (some ((0:Int),()))
 (obind (P_tree_place (x.1,(x.2.1,()))) (fun (y1:Int×Bool×Unit)=>sel (nt y1.2.1)
 (some ((3:Int),()))
 (obind (@idx S30x0 x.1 y1.1) (fun (y2:Sb×Int×Int×Sb×Sb×Unit)=>sel (nt (eqI y2.2.1 (2:Int)))
 (some ((12:Int),()))
 (some ((0:Int),()))))))

noncomputable def P_tree_Check_L0 (x:(List S30x0)×Unit) (y1:S30x2×Unit):Option (S30x10 ⊕ S30x6) :=
 sel (ltI y1.1.2.1 (@len S30x0 x.1))
 (obind (@idx S30x0 x.1 y1.1.2.1) (fun (y2:Sb×Int×Int×Sb×Sb×Unit)=>obind (P_paths_Split (y2.1,())) (fun (y3:Sb×Sb×Unit)=>obind (P_tree_is (y2,())) (fun (y4:Bool×Unit)=>sel (nt y4.1)
 (some (Sum.inr ((1:Nat),(((1:Int),(y1.1.2.1,())),())):(S30x10) ⊕ (S30x6)))
 (sel (ltI (0:Int) y1.1.2.1)
 (obind (@idx S30x0 x.1 (isub IntKind.i64 y1.1.2.1 (1:Int))) (fun (y5:Sb×Int×Int×Sb×Sb×Unit)=>obind (P_paths_Compare (y5.1,(y2.1,()))) (fun (y6:Int×Unit)=>sel (leI (0:Int) y6.1)
 (some (Sum.inr ((1:Nat),(((1:Int),(y1.1.2.1,())),())):(S30x10) ⊕ (S30x6)))
 (sel (inside (0:Int) y1.1.2.1 (@len S30x0 x.1))
 (obind (P_tree_dir (@sub S30x0 x.1 (0:Int) (minus y1.1.2.1 (0:Int)),(y3.1,()))) (fun (y7:Int×Unit)=>sel (nt (eqI y7.1 (0:Int)))
 (some (Sum.inr ((1:Nat),(((1:Int),(y1.1.2.1,())),())):(S30x10) ⊕ (S30x6)))
 (some (Sum.inl ((y1.1.1,(iadd IntKind.i64 y1.1.2.1 (1:Int),())),()):(S30x10) ⊕ (S30x6)))))
 none))))
 (sel (inside (0:Int) y1.1.2.1 (@len S30x0 x.1))
 (obind (P_tree_dir (@sub S30x0 x.1 (0:Int) (minus y1.1.2.1 (0:Int)),(y3.1,()))) (fun (y5:Int×Unit)=>sel (nt (eqI y5.1 (0:Int)))
 (some (Sum.inr ((1:Nat),(((1:Int),(y1.1.2.1,())),())):(S30x10) ⊕ (S30x6)))
 (some (Sum.inl ((y1.1.1,(iadd IntKind.i64 y1.1.2.1 (1:Int),())),()):(S30x10) ⊕ (S30x6)))))
 none))))))
 (some (Sum.inr ((0:Nat),((y1.1.1,(y1.1.2.1,())),())):(S30x10) ⊕ (S30x6)))

noncomputable def P_tree_Check (x:(List S30x0)×Unit):Option (Int×Unit) :=
 sel (ltI (64:Int) (@len S30x0 x.1))
 (some ((1:Int),()))
 (obind (Loop (P_tree_Check_L0 x) (((0:Int),((0:Int),())),())) (fun (y1:Nat×S30x2×Unit)=>sel (eqN y1.1 (0:Nat))
 (some ((0:Int),()))
 (some (y1.2.1.1,()))))

noncomputable def P_slices_Clone_api_TreeNode_api_TreeNode (x:(List S30x0)×Unit):Option ((List S30x0)×Unit) :=
 bif fits (len x.1) then some (x.1,()) else none

noncomputable def P_tree_Put_L0 (x:(List S30x0)×S30x0×Unit) (y8:S30x2×Unit×Sb×Unit):Option ((S30x2×Unit×Sb×Unit) ⊕ (Nat×S30x2×Unit×Sb×Unit)) :=
 sel (ltI y8.1.2.1 (@len S30x0 x.1))
 (sel (within y8.1.2.1 (@len S30x0 x.1))
 (obind (@idx S30x0 x.1 y8.1.2.1) (fun (y9:Sb×Int×Int×Sb×Sb×Unit)=>obind (sel (nt (eqS y9.1 y8.2.2.1))
 (obind (P_paths_Under (y9.1,(y8.2.2.1,()))) (fun (y10:Bool×Unit)=>some y10.1))
 (some true)) (fun (y10:Bool)=>sel y10
 (some (Sum.inr ((1:Nat),((y8.1.2.1,(y8.1.2.1,())),((),(y8.2.2.1,())))):((S30x2×Unit×Sb×Unit)) ⊕ ((Nat×S30x2×Unit×Sb×Unit))))
 (some (Sum.inl ((y8.1.1,(iadd IntKind.i64 y8.1.2.1 (1:Int),())),((),(y8.2.2.1,()))):((S30x2×Unit×Sb×Unit)) ⊕ ((Nat×S30x2×Unit×Sb×Unit)))))))
 none)
 (some (Sum.inr ((0:Nat),((y8.1.1,(y8.1.2.1,())),((),(y8.2.2.1,())))):((S30x2×Unit×Sb×Unit)) ⊕ ((Nat×S30x2×Unit×Sb×Unit))))

noncomputable def P_tree_Put_L1 (y9:(Int×Int×Unit×Unit)×Unit×Sb×(List S30x0)×Unit):Option (S30x3 ⊕ S30x3) :=
 @way1 S30x3 (sel (ltI y9.1.2.1 (@len S30x0 y9.2.2.2.1))
 (sel (within y9.1.2.1 (@len S30x0 y9.2.2.2.1))
 (obind (@idx S30x0 y9.2.2.2.1 y9.1.2.1) (fun (y10:Sb×Int×Int×Sb×Sb×Unit)=>obind (sel (nt (eqS y10.1 y9.2.2.1))
 (obind (P_paths_Under (y10.1,(y9.2.2.1,()))) (fun (y11:Bool×Unit)=>some y11.1))
 (some true)) (fun (y11:Bool)=>obind (sel (nt y11)
 (sel (within y9.1.1 (@len S30x0 y9.2.2.2.1))
 (obind (@idx S30x0 y9.2.2.2.1 y9.1.1) (fun (y12:Sb×Int×Int×Sb×Sb×Unit)=>obind (@idx S30x0 y9.2.2.2.1 y9.1.1) (fun (y13:Sb×Int×Int×Sb×Sb×Unit)=>obind (@idx S30x0 y9.2.2.2.1 y9.1.1) (fun (y14:Sb×Int×Int×Sb×Sb×Unit)=>some ((iadd IntKind.i64 y9.1.1 (1:Int),((),())),(@lset S30x0 y9.2.2.2.1 y9.1.1 y10,()))))))
 none)
 (some ((y9.1.1,((),())),(y9.2.2.2.1,())))) (fun (y12:(Int×Unit×Unit)×(List S30x0)×Unit)=>some (Sum.inl ((y12.1.1,(iadd IntKind.i64 y9.1.2.1 (1:Int),((),()))),((),(y9.2.2.1,(y12.2.1,())))):(S30x3) ⊕ S30x5)))))
 none)
 (some (Sum.inr ((0:Nat),((y9.1.1,(y9.1.2.1,((),()))),((),(y9.2.2.1,(y9.2.2.2.1,()))))):(S30x3) ⊕ S30x5)))

noncomputable def P_tree_Put_L2 (y9:(Int×Int×Unit×Unit)×Unit×Sb×(List S30x0)×Unit):Option (S30x3 ⊕ S30x3) :=
 @way1 S30x3 (sel (ltI y9.1.2.1 (@len S30x0 y9.2.2.2.1))
 (sel (within y9.1.2.1 (@len S30x0 y9.2.2.2.1))
 (obind (@idx S30x0 y9.2.2.2.1 y9.1.2.1) (fun (y10:Sb×Int×Int×Sb×Sb×Unit)=>obind (sel (nt (eqS y10.1 y9.2.2.1))
 (obind (P_paths_Under (y10.1,(y9.2.2.1,()))) (fun (y11:Bool×Unit)=>some y11.1))
 (some true)) (fun (y11:Bool)=>obind (sel (nt y11)
 (sel (within y9.1.1 (@len S30x0 y9.2.2.2.1))
 (obind (@idx S30x0 y9.2.2.2.1 y9.1.1) (fun (y12:Sb×Int×Int×Sb×Sb×Unit)=>obind (@idx S30x0 y9.2.2.2.1 y9.1.1) (fun (y13:Sb×Int×Int×Sb×Sb×Unit)=>obind (@idx S30x0 y9.2.2.2.1 y9.1.1) (fun (y14:Sb×Int×Int×Sb×Sb×Unit)=>some ((iadd IntKind.i64 y9.1.1 (1:Int),((),())),(@lset S30x0 y9.2.2.2.1 y9.1.1 y10,()))))))
 none)
 (some ((y9.1.1,((),())),(y9.2.2.2.1,())))) (fun (y12:(Int×Unit×Unit)×(List S30x0)×Unit)=>some (Sum.inl ((y12.1.1,(iadd IntKind.i64 y9.1.2.1 (1:Int),((),()))),((),(y9.2.2.1,(y12.2.1,())))):(S30x3) ⊕ S30x5)))))
 none)
 (some (Sum.inr ((0:Nat),((y9.1.1,(y9.1.2.1,((),()))),((),(y9.2.2.1,(y9.2.2.2.1,()))))):(S30x3) ⊕ S30x5)))

noncomputable def P_tree_Put (x:(List S30x0)×S30x0×Unit):Option ((List S30x0)×Int×Unit) :=
 obind (P_tree_Check (x.1,())) (fun (y1:Int×Unit)=>obind (sel (nt (nt (eqI y1.1 (0:Int))))
 (obind (P_tree_is (x.2.1,())) (fun (y2:Bool×Unit)=>some (nt y2.1)))
 (some true)) (fun (y2:Bool)=>sel y2
 (some (([]:List S30x0),((1:Int),())))
 (obind (P_paths_Split (x.2.1.1,())) (fun (y3:Sb×Sb×Unit)=>obind (P_tree_dir (x.1,(y3.1,()))) (fun (y4:Int×Unit)=>sel (nt (eqI y4.1 (0:Int)))
 (some (([]:List S30x0),(y4.1,())))
 (obind (P_tree_place (x.1,(x.2.1.1,()))) (fun (y5:Int×Bool×Unit)=>obind (sel y5.2.1
 (obind (@idx S30x0 x.1 y5.1) (fun (y6:Sb×Int×Int×Sb×Sb×Unit)=>some (eqI y6.2.1 (2:Int))))
 (some false)) (fun (y6:Bool)=>sel (sel y6
 (eqI x.2.1.2.1 (2:Int))
 false)
 (sel (fits (@len S30x0 x.1))
 (sel (within y5.1 (@len S30x0 x.1))
 (obind (@idx S30x0 x.1 y5.1) (fun (y7:Sb×Int×Int×Sb×Sb×Unit)=>obind (@idx S30x0 x.1 y5.1) (fun (y8:Sb×Int×Int×Sb×Sb×Unit)=>obind (@idx S30x0 x.1 y5.1) (fun (y9:Sb×Int×Int×Sb×Sb×Unit)=>some (@lset S30x0 x.1 y5.1 x.2.1,((0:Int),()))))))
 none)
 none)
 (obind (P_tree_Check (x.1,())) (fun (y7:Int×Unit)=>sel (nt (eqI y7.1 (0:Int)))
 (sel (leI (64:Int) (@len S30x0 ([]:List S30x0)))
 (some (([]:List S30x0),((5:Int),())))
 (obind (P_tree_place (([]:List S30x0),(x.2.1.1,()))) (fun (y8:Int×Bool×Unit)=>none)))
 (sel (fits (@len S30x0 x.1))
 (obind (Loop (P_tree_Put_L0 x) (((0:Int),((0:Int),())),((),(x.2.1.1,())))) (fun (y8:Nat×S30x2×Unit×Sb×Unit)=>sel (eqN y8.1 (0:Nat))
 (sel (eqI (-1:Int) (-1:Int))
 (sel (leI (64:Int) (@len S30x0 x.1))
 (some (([]:List S30x0),((5:Int),())))
 (obind (P_tree_place (x.1,(x.2.1.1,()))) (fun (y9:Int×Bool×Unit)=>obind (P_slices_Insert_api_TreeNode_api_TreeNode x.1 (y9.1,(([x.2.1]:List S30x0),()))) (fun (y10:List S30x0)=>some (y10,((0:Int),()))))))
 (obind (Loop (P_tree_Put_L1) (((-1:Int),(iadd IntKind.i64 (-1:Int) (1:Int),((),()))),((),(y8.2.2.2.1,(x.1,()))))) (fun (y9:(Int×Int×Unit×Unit)×Unit×Sb×(List S30x0)×Unit)=>sel (inside y9.1.1 (@len S30x0 y9.2.2.2.1) (@len S30x0 y9.2.2.2.1))
 (sel (inside (0:Int) y9.1.1 (@len S30x0 (@over S30x0 y9.2.2.2.1 y9.1.1 (@lrep S30x0 (minus (@len S30x0 y9.2.2.2.1) y9.1.1) (([]:List (UInt8)),((0:Int),((0:Int),(([]:List (UInt8)),(([]:List (UInt8)),())))))))))
 (sel (leI (64:Int) (minus y9.1.1 (0:Int)))
 (some (([]:List S30x0),((5:Int),())))
 (obind (P_tree_place (@sub S30x0 (@over S30x0 y9.2.2.2.1 y9.1.1 (@lrep S30x0 (minus (@len S30x0 y9.2.2.2.1) y9.1.1) (([]:List (UInt8)),((0:Int),((0:Int),(([]:List (UInt8)),(([]:List (UInt8)),()))))))) (0:Int) (minus y9.1.1 (0:Int)),(x.2.1.1,()))) (fun (y10:Int×Bool×Unit)=>obind (P_slices_Insert_api_TreeNode_api_TreeNode (@sub S30x0 (@over S30x0 y9.2.2.2.1 y9.1.1 (@lrep S30x0 (minus (@len S30x0 y9.2.2.2.1) y9.1.1) (([]:List (UInt8)),((0:Int),((0:Int),(([]:List (UInt8)),(([]:List (UInt8)),()))))))) (0:Int) (minus y9.1.1 (0:Int))) (y10.1,(([x.2.1]:List S30x0),()))) (fun (y11:List S30x0)=>some (y11,((0:Int),()))))))
 none)
 none)))
 (sel (eqI y8.2.1.1 (-1:Int))
 (sel (leI (64:Int) (@len S30x0 x.1))
 (some (([]:List S30x0),((5:Int),())))
 (obind (P_tree_place (x.1,(x.2.1.1,()))) (fun (y9:Int×Bool×Unit)=>obind (P_slices_Insert_api_TreeNode_api_TreeNode x.1 (y9.1,(([x.2.1]:List S30x0),()))) (fun (y10:List S30x0)=>some (y10,((0:Int),()))))))
 (obind (Loop (P_tree_Put_L2) ((y8.2.1.1,(iadd IntKind.i64 y8.2.1.1 (1:Int),((),()))),((),(y8.2.2.2.1,(x.1,()))))) (fun (y9:(Int×Int×Unit×Unit)×Unit×Sb×(List S30x0)×Unit)=>sel (inside y9.1.1 (@len S30x0 y9.2.2.2.1) (@len S30x0 y9.2.2.2.1))
 (sel (inside (0:Int) y9.1.1 (@len S30x0 (@over S30x0 y9.2.2.2.1 y9.1.1 (@lrep S30x0 (minus (@len S30x0 y9.2.2.2.1) y9.1.1) (([]:List (UInt8)),((0:Int),((0:Int),(([]:List (UInt8)),(([]:List (UInt8)),())))))))))
 (sel (leI (64:Int) (minus y9.1.1 (0:Int)))
 (some (([]:List S30x0),((5:Int),())))
 (obind (P_tree_place (@sub S30x0 (@over S30x0 y9.2.2.2.1 y9.1.1 (@lrep S30x0 (minus (@len S30x0 y9.2.2.2.1) y9.1.1) (([]:List (UInt8)),((0:Int),((0:Int),(([]:List (UInt8)),(([]:List (UInt8)),()))))))) (0:Int) (minus y9.1.1 (0:Int)),(x.2.1.1,()))) (fun (y10:Int×Bool×Unit)=>obind (P_slices_Insert_api_TreeNode_api_TreeNode (@sub S30x0 (@over S30x0 y9.2.2.2.1 y9.1.1 (@lrep S30x0 (minus (@len S30x0 y9.2.2.2.1) y9.1.1) (([]:List (UInt8)),((0:Int),((0:Int),(([]:List (UInt8)),(([]:List (UInt8)),()))))))) (0:Int) (minus y9.1.1 (0:Int))) (y10.1,(([x.2.1]:List S30x0),()))) (fun (y11:List S30x0)=>some (y11,((0:Int),()))))))
 none)
 none)))))
 none)))))))))))

noncomputable def P_ref14_Same_L0 (x:(List S30x0)×(List S30x0)×Unit) (y1:S30x1×Unit):Option (S30x9 ⊕ S30x4) :=
 sel (sel (ltI y1.1.2.1 (@len S30x0 x.1))
 (ltI y1.1.2.1 (@len S30x0 x.2.1))
 false)
 (obind (@idx S30x0 x.1 y1.1.2.1) (fun (y2:Sb×Int×Int×Sb×Sb×Unit)=>obind (@idx S30x0 x.2.1 y1.1.2.1) (fun (y3:Sb×Int×Int×Sb×Sb×Unit)=>sel (nt (an (eqS y2.1 y3.1) (an (eqI y2.2.1 y3.2.1) (an (eqI y2.2.2.1 y3.2.2.1) (an (eqS y2.2.2.2.1 y3.2.2.2.1) (an (eqS y2.2.2.2.2.1 y3.2.2.2.2.1) true))))))
 (some (Sum.inr ((1:Nat),((false,(y1.1.2.1,())),())):(S30x9) ⊕ (S30x4)))
 (some (Sum.inl ((y1.1.1,(iadd IntKind.i64 y1.1.2.1 (1:Int),())),()):(S30x9) ⊕ (S30x4))))))
 (some (Sum.inr ((0:Nat),((y1.1.1,(y1.1.2.1,())),())):(S30x9) ⊕ (S30x4)))

noncomputable def P_ref14_Same (x:(List S30x0)×(List S30x0)×Unit):Option (Bool×Unit) :=
 sel (nt (eqI (@len S30x0 x.1) (@len S30x0 x.2.1)))
 (some (false,()))
 (obind (Loop (P_ref14_Same_L0 x) ((false,((0:Int),())),())) (fun (y1:Nat×S30x1×Unit)=>sel (eqN y1.1 (0:Nat))
 (some (true,()))
 (some (y1.2.1.1,()))))

noncomputable def P_tree_Find (x:(List S30x0)×Sb×Unit):Option (S30x0×Bool×Unit) :=
 obind (P_tree_Check (x.1,())) (fun (y1:Int×Unit)=>sel (nt (eqI y1.1 (0:Int)))
 (some ((([]:List (UInt8)),((0:Int),((0:Int),(([]:List (UInt8)),(([]:List (UInt8)),()))))),(false,())))
 (obind (P_tree_place (x.1,(x.2.1,()))) (fun (y2:Int×Bool×Unit)=>sel (nt y2.2.1)
 (some ((([]:List (UInt8)),((0:Int),((0:Int),(([]:List (UInt8)),(([]:List (UInt8)),()))))),(false,())))
 (obind (@idx S30x0 x.1 y2.1) (fun (y3:Sb×Int×Int×Sb×Sb×Unit)=>some (y3,(true,())))))))

noncomputable def P_ref14_IsLink_L0 (x:Sb×Unit) (y1:S30x1×Unit):Option (S30x9 ⊕ S30x4) :=
 sel (ltI y1.1.2.1 (@len UInt8 x.1))
 (obind (@idx UInt8 x.1 y1.1.2.1) (fun (y2:UInt8)=>sel (eqI (u8 y2) (0:Int))
 (some (Sum.inr ((1:Nat),((false,(y1.1.2.1,())),())):(S30x9) ⊕ (S30x4)))
 (some (Sum.inl ((y1.1.1,(iadd IntKind.i64 y1.1.2.1 (1:Int),())),()):(S30x9) ⊕ (S30x4)))))
 (some (Sum.inr ((0:Nat),((y1.1.1,(y1.1.2.1,())),())):(S30x9) ⊕ (S30x4)))

noncomputable def P_ref14_IsLink (x:Sb×Unit):Option (Bool×Unit) :=
 obind (Loop (P_ref14_IsLink_L0 x) ((false,((0:Int),())),())) (fun (y1:Nat×S30x1×Unit)=>sel (eqN y1.1 (0:Nat))
 (some (sel (leI (1:Int) (@len UInt8 x.1))
 (leI (@len UInt8 x.1) (100:Int))
 false,()))
 (some (y1.2.1.1,())))

noncomputable def P_ref14_May (x:S30x0×Unit):Option (Bool×Unit) :=
 obind (P_ref07_Split (x.1.1,())) (fun (y1:Sb×Sb×Unit)=>obind (P_ref07_Mark (y1.2.1,())) (fun (y2:Int×Sb×Unit)=>obind (sel (nt (eqS x.1.1 ([]:List (UInt8))))
 (obind (P_ref07_Is (x.1.1,())) (fun (y3:Bool×Unit)=>some y3.1))
 (some false)) (fun (y3:Bool)=>sel (eqI x.1.2.1 (1:Int))
 (some (sel (sel (sel (sel (sel (sel (sel y3
 (leI (@len UInt8 x.1.1) (92:Int))
 false)
 (leI (@len UInt8 y1.2.1) (28:Int))
 false)
 (eqI y2.1 (0:Int))
 false)
 (leI (0:Int) x.1.2.2.1)
 false)
 (leI x.1.2.2.1 (4095:Int))
 false)
 (eqS x.1.2.2.2.2.1 ([]:List (UInt8)))
 false)
 (leI (@len UInt8 x.1.2.2.2.1) (8192:Int))
 false,()))
 (sel (eqI x.1.2.1 (2:Int))
 (some (sel (sel (sel (sel (sel (sel (sel y3
 (leI (@len UInt8 x.1.1) (92:Int))
 false)
 (leI (@len UInt8 y1.2.1) (28:Int))
 false)
 (eqI y2.1 (0:Int))
 false)
 (leI (0:Int) x.1.2.2.1)
 false)
 (leI x.1.2.2.1 (4095:Int))
 false)
 (eqS x.1.2.2.2.2.1 ([]:List (UInt8)))
 false)
 (eqS x.1.2.2.2.1 ([]:List (UInt8)))
 false,()))
 (sel (eqI x.1.2.1 (3:Int))
 (obind (sel (sel (sel (sel (sel (sel (sel y3
 (leI (@len UInt8 x.1.1) (92:Int))
 false)
 (leI (@len UInt8 y1.2.1) (28:Int))
 false)
 (eqI y2.1 (0:Int))
 false)
 (leI (0:Int) x.1.2.2.1)
 false)
 (leI x.1.2.2.1 (4095:Int))
 false)
 (eqS x.1.2.2.2.1 ([]:List (UInt8)))
 false)
 (obind (P_ref14_IsLink (x.1.2.2.2.2.1,())) (fun (y4:Bool×Unit)=>some y4.1))
 (some false)) (fun (y4:Bool)=>some (y4,())))
 (some (false,())))))))

noncomputable def P_ref14_find_L0 (x:(List S30x0)×Sb×Unit) (y1:S30x2×Unit):Option (S30x10 ⊕ S30x6) :=
 sel (ltI y1.1.2.1 (@len S30x0 x.1))
 (obind (@idx S30x0 x.1 y1.1.2.1) (fun (y2:Sb×Int×Int×Sb×Sb×Unit)=>sel (eqS y2.1 x.2.1)
 (some (Sum.inr ((1:Nat),((y1.1.2.1,(y1.1.2.1,())),())):(S30x10) ⊕ (S30x6)))
 (some (Sum.inl ((y1.1.1,(iadd IntKind.i64 y1.1.2.1 (1:Int),())),()):(S30x10) ⊕ (S30x6)))))
 (some (Sum.inr ((0:Nat),((y1.1.1,(y1.1.2.1,())),())):(S30x10) ⊕ (S30x6)))

noncomputable def P_ref14_find (x:(List S30x0)×Sb×Unit):Option (Int×Unit) :=
 obind (Loop (P_ref14_find_L0 x) (((0:Int),((0:Int),())),())) (fun (y1:Nat×S30x2×Unit)=>sel (eqN y1.1 (0:Nat))
 (some ((-1:Int),()))
 (some (y1.2.1.1,())))

noncomputable def P_ref14_dir (x:(List S30x0)×Sb×Unit):Option (Bool×Unit) :=
 obind (P_ref14_find (x.1,(x.2.1,()))) (fun (y1:Int×Unit)=>obind (sel (nt (eqS x.2.1 ([]:List (UInt8))))
 (obind (sel (leI (0:Int) y1.1)
 (obind (@idx S30x0 x.1 y1.1) (fun (y2:Sb×Int×Int×Sb×Sb×Unit)=>some (eqI y2.2.1 (2:Int))))
 (some false)) (fun (y2:Bool)=>some y2))
 (some true)) (fun (y2:Bool)=>some (y2,())))

noncomputable def P_ref14_Is_L0 (x:(List S30x0)×Unit) (y1:S30x1×Unit):Option (S30x9 ⊕ S30x4) :=
 sel (ltI y1.1.2.1 (@len S30x0 x.1))
 (obind (@idx S30x0 x.1 y1.1.2.1) (fun (y2:Sb×Int×Int×Sb×Sb×Unit)=>obind (P_ref07_Split (y2.1,())) (fun (y3:Sb×Sb×Unit)=>obind (@idx S30x0 x.1 y1.1.2.1) (fun (y4:Sb×Int×Int×Sb×Sb×Unit)=>obind (P_ref14_May (y4,())) (fun (y5:Bool×Unit)=>sel (nt y5.1)
 (some (Sum.inr ((1:Nat),((false,(y1.1.2.1,())),())):(S30x9) ⊕ (S30x4)))
 (obind (P_ref14_dir (x.1,(y3.1,()))) (fun (y6:Bool×Unit)=>sel (nt y6.1)
 (some (Sum.inr ((1:Nat),((false,(y1.1.2.1,())),())):(S30x9) ⊕ (S30x4)))
 (sel (ltI (0:Int) y1.1.2.1)
 (obind (@idx S30x0 x.1 (isub IntKind.i64 y1.1.2.1 (1:Int))) (fun (y7:Sb×Int×Int×Sb×Sb×Unit)=>obind (@idx S30x0 x.1 y1.1.2.1) (fun (y8:Sb×Int×Int×Sb×Sb×Unit)=>obind (P_ref07_Compare (y7.1,(y8.1,()))) (fun (y9:Int×Unit)=>sel (leI (0:Int) y9.1)
 (some (Sum.inr ((1:Nat),((false,(y1.1.2.1,())),())):(S30x9) ⊕ (S30x4)))
 (some (Sum.inl ((y1.1.1,(iadd IntKind.i64 y1.1.2.1 (1:Int),())),()):(S30x9) ⊕ (S30x4)))))))
 (some (Sum.inl ((y1.1.1,(iadd IntKind.i64 y1.1.2.1 (1:Int),())),()):(S30x9) ⊕ (S30x4)))))))))))
 (some (Sum.inr ((0:Nat),((y1.1.1,(y1.1.2.1,())),())):(S30x9) ⊕ (S30x4)))

noncomputable def P_ref14_Is (x:(List S30x0)×Unit):Option (Bool×Unit) :=
 sel (ltI (64:Int) (@len S30x0 x.1))
 (some (false,()))
 (obind (Loop (P_ref14_Is_L0 x) ((false,((0:Int),())),())) (fun (y1:Nat×S30x1×Unit)=>sel (eqN y1.1 (0:Nat))
 (some (true,()))
 (some (y1.2.1.1,()))))

noncomputable def P_ref14_without_L0 (x:(List S30x0)×Sb×Bool×Unit) (y1:(Unit×Int×Unit)×(List S30x0)×Unit):Option (S30x7 ⊕ S30x7) :=
 @way1 S30x7 (sel (ltI y1.1.2.1 (@len S30x0 x.1))
 (obind (@idx S30x0 x.1 y1.1.2.1) (fun (y2:Sb×Int×Int×Sb×Sb×Unit)=>obind (P_ref07_Under (y2.1,(x.2.1,()))) (fun (y3:Bool×Unit)=>obind (sel (nt y3.1)
 (obind (sel (nt (nt x.2.2.1))
 (obind (@idx S30x0 x.1 y1.1.2.1) (fun (y4:Sb×Int×Int×Sb×Sb×Unit)=>some (nt (eqS y4.1 x.2.1))))
 (some true)) (fun (y4:Bool)=>some y4))
 (some false)) (fun (y4:Bool)=>obind (sel y4
 (obind (@idx S30x0 x.1 y1.1.2.1) (fun (y5:Sb×Int×Int×Sb×Sb×Unit)=>sel (fits (plus (@len S30x0 y1.2.1) (@len S30x0 ([y5]:List S30x0))))
 (some (((),()),(@app S30x0 y1.2.1 ([y5]:List S30x0),())))
 none))
 (some (((),()),(y1.2.1,())))) (fun (y5:(Unit×Unit)×(List S30x0)×Unit)=>some (Sum.inl (((),(iadd IntKind.i64 y1.1.2.1 (1:Int),())),(y5.2.1,())):(S30x7) ⊕ ((Nat×(Unit×Int×Unit)×(List S30x0)×Unit))))))))
 (some (Sum.inr ((0:Nat),(((),(y1.1.2.1,())),(y1.2.1,()))):(S30x7) ⊕ ((Nat×(Unit×Int×Unit)×(List S30x0)×Unit)))))

noncomputable def P_ref14_without (x:(List S30x0)×Sb×Bool×Unit):Option ((List S30x0)×Unit) :=
 obind (Loop (P_ref14_without_L0 x) (((),((0:Int),())),(([]:List S30x0),()))) (fun (y1:(Unit×Int×Unit)×(List S30x0)×Unit)=>some (y1.2.1,()))

noncomputable def P_ref14_Put_L0 (x:(List S30x0)×S30x0×Unit) (y8:((List S30x0)×Unit)×Unit) (y9:(Int×Unit)×Unit):Option (((Int×Unit)×Unit) ⊕ ((Int×Unit)×Unit)) :=
 @way1 ((Int×Unit)×Unit) (sel (ltI y9.1.1 (@len S30x0 y8.1.1))
 (obind (@idx S30x0 y8.1.1 y9.1.1) (fun (y10:Sb×Int×Int×Sb×Sb×Unit)=>obind (P_ref07_Compare (y10.1,(x.2.1.1,()))) (fun (y11:Int×Unit)=>sel (ltI y11.1 (0:Int))
 (some (Sum.inl ((iadd IntKind.i64 y9.1.1 (1:Int),()),()):(((Int×Unit)×Unit)) ⊕ ((Nat×(Int×Unit)×Unit))))
 (some (Sum.inr ((0:Nat),((y9.1.1,()),())):(((Int×Unit)×Unit)) ⊕ ((Nat×(Int×Unit)×Unit)))))))
 (some (Sum.inr ((0:Nat),((y9.1.1,()),())):(((Int×Unit)×Unit)) ⊕ ((Nat×(Int×Unit)×Unit)))))

noncomputable def P_ref14_Put (x:(List S30x0)×S30x0×Unit):Option ((List S30x0)×Int×Unit) :=
 obind (P_ref14_Is (x.1,())) (fun (y1:Bool×Unit)=>obind (sel (nt (nt y1.1))
 (obind (P_ref14_May (x.2.1,())) (fun (y2:Bool×Unit)=>some (nt y2.1)))
 (some true)) (fun (y2:Bool)=>sel y2
 (some (([]:List S30x0),((1:Int),())))
 (obind (P_ref07_Split (x.2.1.1,())) (fun (y3:Sb×Sb×Unit)=>obind (sel (nt (eqS y3.1 ([]:List (UInt8))))
 (obind (P_ref14_find (x.1,(y3.1,()))) (fun (y4:Int×Unit)=>some (ltI y4.1 (0:Int))))
 (some false)) (fun (y4:Bool)=>sel y4
 (some (([]:List S30x0),((3:Int),())))
 (obind (P_ref14_dir (x.1,(y3.1,()))) (fun (y5:Bool×Unit)=>sel (nt y5.1)
 (some (([]:List S30x0),((12:Int),())))
 (obind (P_ref14_find (x.1,(x.2.1.1,()))) (fun (y6:Int×Unit)=>obind (sel (leI (0:Int) y6.1)
 (obind (@idx S30x0 x.1 y6.1) (fun (y7:Sb×Int×Int×Sb×Sb×Unit)=>some (eqI y7.2.1 (2:Int))))
 (some false)) (fun (y7:Bool)=>obind (sel (sel y7
 (eqI x.2.1.2.1 (2:Int))
 false)
 (sel (inside (0:Int) y6.1 (@len S30x0 x.1))
 (sel (fits (plus (@len S30x0 ([]:List S30x0)) (@len S30x0 (@sub S30x0 x.1 (0:Int) (minus y6.1 (0:Int))))))
 (sel (inside (iadd IntKind.i64 y6.1 (1:Int)) (@len S30x0 x.1) (@len S30x0 x.1))
 (sel (fits (plus (@len S30x0 (@app S30x0 ([]:List S30x0) (@sub S30x0 x.1 (0:Int) (minus y6.1 (0:Int))))) (@len S30x0 (@sub S30x0 x.1 (iadd IntKind.i64 y6.1 (1:Int)) (minus (@len S30x0 x.1) (iadd IntKind.i64 y6.1 (1:Int)))))))
 (some ((@app S30x0 (@app S30x0 ([]:List S30x0) (@sub S30x0 x.1 (0:Int) (minus y6.1 (0:Int)))) (@sub S30x0 x.1 (iadd IntKind.i64 y6.1 (1:Int)) (minus (@len S30x0 x.1) (iadd IntKind.i64 y6.1 (1:Int)))),()),()))
 none)
 none)
 none)
 none)
 (obind (sel (leI (0:Int) y6.1)
 (obind (P_ref14_without (x.1,(x.2.1.1,(true,())))) (fun (y8:(List S30x0)×Unit)=>some ((y8.1,()),())))
 (some ((x.1,()),()))) (fun (y8:((List S30x0)×Unit)×Unit)=>some ((y8.1.1,()),())))) (fun (y8:((List S30x0)×Unit)×Unit)=>sel (leI (64:Int) (@len S30x0 y8.1.1))
 (some (([]:List S30x0),((5:Int),())))
 (obind (Loop (P_ref14_Put_L0 x y8) (((0:Int),()),())) (fun (y9:(Int×Unit)×Unit)=>sel (inside (0:Int) y9.1.1 (@len S30x0 y8.1.1))
 (sel (fits (plus (@len S30x0 ([]:List S30x0)) (@len S30x0 (@sub S30x0 y8.1.1 (0:Int) (minus y9.1.1 (0:Int))))))
 (sel (fits (plus (@len S30x0 (@app S30x0 ([]:List S30x0) (@sub S30x0 y8.1.1 (0:Int) (minus y9.1.1 (0:Int))))) (@len S30x0 ([x.2.1]:List S30x0))))
 (sel (inside y9.1.1 (@len S30x0 y8.1.1) (@len S30x0 y8.1.1))
 (sel (fits (plus (@len S30x0 (@app S30x0 (@app S30x0 ([]:List S30x0) (@sub S30x0 y8.1.1 (0:Int) (minus y9.1.1 (0:Int)))) ([x.2.1]:List S30x0))) (@len S30x0 (@sub S30x0 y8.1.1 y9.1.1 (minus (@len S30x0 y8.1.1) y9.1.1)))))
 (some (@app S30x0 (@app S30x0 (@app S30x0 ([]:List S30x0) (@sub S30x0 y8.1.1 (0:Int) (minus y9.1.1 (0:Int)))) ([x.2.1]:List S30x0)) (@sub S30x0 y8.1.1 y9.1.1 (minus (@len S30x0 y8.1.1) y9.1.1)),((0:Int),())))
 none)
 none)
 none)
 none)
 none)))))))))))))

end Go.Ge

/- What the functions of layer 14z.is compute, as plain programs (written by a program from what the ghost interpreter comes to). -/
namespace Go.Ge
set_option linter.unusedVariables false
set_option maxRecDepth 100000

abbrev S31x0:=(Sb×Int×Int×Sb×Sb×Unit)
abbrev S31x1:=((Int×Int×Unit×Unit)×Unit×Sb×(List S31x0)×Unit)
abbrev S31x2:=((Nat×(Int×Int×Unit×Unit)×Unit×Sb×(List S31x0)×Unit))
abbrev S31x3:=(Nat×(Int×Int×Unit)×Unit×Sb×Unit)
abbrev S31x4:=((Int×Int×Unit)×Unit×Sb×Unit)
abbrev S31x5:=(Int×Int×Unit×Unit)
noncomputable def P_tree_Remove_L0 (x:(List S31x0)×Sb×Unit) (y2:(Int×Int×Unit)×Unit×Sb×Unit):Option (S31x4 ⊕ S31x3) :=
 sel (ltI y2.1.2.1 (@len S31x0 x.1))
 (sel (within y2.1.2.1 (@len S31x0 x.1))
 (obind (@idx S31x0 x.1 y2.1.2.1) (fun (y3:Sb×Int×Int×Sb×Sb×Unit)=>obind (sel (nt (eqS y3.1 y2.2.2.1))
 (obind (P_paths_Under (y3.1,(y2.2.2.1,()))) (fun (y4:Bool×Unit)=>some y4.1))
 (some true)) (fun (y4:Bool)=>sel y4
 (some (Sum.inr ((1:Nat),((y2.1.2.1,(y2.1.2.1,())),((),(y2.2.2.1,())))):(S31x4) ⊕ (S31x3)))
 (some (Sum.inl ((y2.1.1,(iadd IntKind.i64 y2.1.2.1 (1:Int),())),((),(y2.2.2.1,()))):(S31x4) ⊕ (S31x3))))))
 none)
 (some (Sum.inr ((0:Nat),((y2.1.1,(y2.1.2.1,())),((),(y2.2.2.1,())))):(S31x4) ⊕ (S31x3)))

noncomputable def P_tree_Remove_L1 (y3:S31x5×Unit×Sb×(List S31x0)×Unit):Option (S31x1 ⊕ S31x1) :=
 @way1 S31x1 (sel (ltI y3.1.2.1 (@len S31x0 y3.2.2.2.1))
 (sel (within y3.1.2.1 (@len S31x0 y3.2.2.2.1))
 (obind (@idx S31x0 y3.2.2.2.1 y3.1.2.1) (fun (y4:Sb×Int×Int×Sb×Sb×Unit)=>obind (sel (nt (eqS y4.1 y3.2.2.1))
 (obind (P_paths_Under (y4.1,(y3.2.2.1,()))) (fun (y5:Bool×Unit)=>some y5.1))
 (some true)) (fun (y5:Bool)=>obind (sel (nt y5)
 (sel (within y3.1.1 (@len S31x0 y3.2.2.2.1))
 (obind (@idx S31x0 y3.2.2.2.1 y3.1.1) (fun (y6:Sb×Int×Int×Sb×Sb×Unit)=>obind (@idx S31x0 y3.2.2.2.1 y3.1.1) (fun (y7:Sb×Int×Int×Sb×Sb×Unit)=>obind (@idx S31x0 y3.2.2.2.1 y3.1.1) (fun (y8:Sb×Int×Int×Sb×Sb×Unit)=>some ((iadd IntKind.i64 y3.1.1 (1:Int),((),())),(@lset S31x0 y3.2.2.2.1 y3.1.1 y4,()))))))
 none)
 (some ((y3.1.1,((),())),(y3.2.2.2.1,())))) (fun (y6:(Int×Unit×Unit)×(List S31x0)×Unit)=>some (Sum.inl ((y6.1.1,(iadd IntKind.i64 y3.1.2.1 (1:Int),((),()))),((),(y3.2.2.1,(y6.2.1,())))):(S31x1) ⊕ S31x2)))))
 none)
 (some (Sum.inr ((0:Nat),((y3.1.1,(y3.1.2.1,((),()))),((),(y3.2.2.1,(y3.2.2.2.1,()))))):(S31x1) ⊕ S31x2)))

noncomputable def P_tree_Remove_L2 (y3:S31x5×Unit×Sb×(List S31x0)×Unit):Option (S31x1 ⊕ S31x1) :=
 @way1 S31x1 (sel (ltI y3.1.2.1 (@len S31x0 y3.2.2.2.1))
 (sel (within y3.1.2.1 (@len S31x0 y3.2.2.2.1))
 (obind (@idx S31x0 y3.2.2.2.1 y3.1.2.1) (fun (y4:Sb×Int×Int×Sb×Sb×Unit)=>obind (sel (nt (eqS y4.1 y3.2.2.1))
 (obind (P_paths_Under (y4.1,(y3.2.2.1,()))) (fun (y5:Bool×Unit)=>some y5.1))
 (some true)) (fun (y5:Bool)=>obind (sel (nt y5)
 (sel (within y3.1.1 (@len S31x0 y3.2.2.2.1))
 (obind (@idx S31x0 y3.2.2.2.1 y3.1.1) (fun (y6:Sb×Int×Int×Sb×Sb×Unit)=>obind (@idx S31x0 y3.2.2.2.1 y3.1.1) (fun (y7:Sb×Int×Int×Sb×Sb×Unit)=>obind (@idx S31x0 y3.2.2.2.1 y3.1.1) (fun (y8:Sb×Int×Int×Sb×Sb×Unit)=>some ((iadd IntKind.i64 y3.1.1 (1:Int),((),())),(@lset S31x0 y3.2.2.2.1 y3.1.1 y4,()))))))
 none)
 (some ((y3.1.1,((),())),(y3.2.2.2.1,())))) (fun (y6:(Int×Unit×Unit)×(List S31x0)×Unit)=>some (Sum.inl ((y6.1.1,(iadd IntKind.i64 y3.1.2.1 (1:Int),((),()))),((),(y3.2.2.1,(y6.2.1,())))):(S31x1) ⊕ S31x2)))))
 none)
 (some (Sum.inr ((0:Nat),((y3.1.1,(y3.1.2.1,((),()))),((),(y3.2.2.1,(y3.2.2.2.1,()))))):(S31x1) ⊕ S31x2)))

noncomputable def P_tree_Remove (x:(List S31x0)×Sb×Unit):Option ((List S31x0)×Unit) :=
 obind (P_tree_Check (x.1,())) (fun (y1:Int×Unit)=>sel (nt (eqI y1.1 (0:Int)))
 (some (([]:List S31x0),()))
 (sel (fits (@len S31x0 x.1))
 (obind (Loop (P_tree_Remove_L0 x) (((0:Int),((0:Int),())),((),(x.2.1,())))) (fun (y2:Nat×(Int×Int×Unit)×Unit×Sb×Unit)=>sel (eqN y2.1 (0:Nat))
 (sel (eqI (-1:Int) (-1:Int))
 (some (x.1,()))
 (obind (Loop (P_tree_Remove_L1) (((-1:Int),(iadd IntKind.i64 (-1:Int) (1:Int),((),()))),((),(y2.2.2.2.1,(x.1,()))))) (fun (y3:S31x5×Unit×Sb×(List S31x0)×Unit)=>sel (inside y3.1.1 (@len S31x0 y3.2.2.2.1) (@len S31x0 y3.2.2.2.1))
 (sel (inside (0:Int) y3.1.1 (@len S31x0 (@over S31x0 y3.2.2.2.1 y3.1.1 (@lrep S31x0 (minus (@len S31x0 y3.2.2.2.1) y3.1.1) (([]:List (UInt8)),((0:Int),((0:Int),(([]:List (UInt8)),(([]:List (UInt8)),())))))))))
 (some (@sub S31x0 (@over S31x0 y3.2.2.2.1 y3.1.1 (@lrep S31x0 (minus (@len S31x0 y3.2.2.2.1) y3.1.1) (([]:List (UInt8)),((0:Int),((0:Int),(([]:List (UInt8)),(([]:List (UInt8)),()))))))) (0:Int) (minus y3.1.1 (0:Int)),()))
 none)
 none)))
 (sel (eqI y2.2.1.1 (-1:Int))
 (some (x.1,()))
 (obind (Loop (P_tree_Remove_L2) ((y2.2.1.1,(iadd IntKind.i64 y2.2.1.1 (1:Int),((),()))),((),(y2.2.2.2.1,(x.1,()))))) (fun (y3:S31x5×Unit×Sb×(List S31x0)×Unit)=>sel (inside y3.1.1 (@len S31x0 y3.2.2.2.1) (@len S31x0 y3.2.2.2.1))
 (sel (inside (0:Int) y3.1.1 (@len S31x0 (@over S31x0 y3.2.2.2.1 y3.1.1 (@lrep S31x0 (minus (@len S31x0 y3.2.2.2.1) y3.1.1) (([]:List (UInt8)),((0:Int),((0:Int),(([]:List (UInt8)),(([]:List (UInt8)),())))))))))
 (some (@sub S31x0 (@over S31x0 y3.2.2.2.1 y3.1.1 (@lrep S31x0 (minus (@len S31x0 y3.2.2.2.1) y3.1.1) (([]:List (UInt8)),((0:Int),((0:Int),(([]:List (UInt8)),(([]:List (UInt8)),()))))))) (0:Int) (minus y3.1.1 (0:Int)),()))
 none)
 none)))))
 none))

noncomputable def P_ref14_Find (x:(List S31x0)×Sb×Unit):Option (S31x0×Bool×Unit) :=
 obind (P_ref14_find (x.1,(x.2.1,()))) (fun (y1:Int×Unit)=>obind (P_ref14_Is (x.1,())) (fun (y2:Bool×Unit)=>sel (sel (nt (nt y2.1))
 (ltI y1.1 (0:Int))
 true)
 (some ((([]:List (UInt8)),((0:Int),((0:Int),(([]:List (UInt8)),(([]:List (UInt8)),()))))),(false,())))
 (obind (@idx S31x0 x.1 y1.1) (fun (y3:Sb×Int×Int×Sb×Sb×Unit)=>some (y3,(true,()))))))

noncomputable def P_ref14_Remove (x:(List S31x0)×Sb×Unit):Option ((List S31x0)×Unit) :=
 obind (P_ref14_Is (x.1,())) (fun (y1:Bool×Unit)=>sel (nt y1.1)
 (some (([]:List S31x0),()))
 (obind (P_ref14_without (x.1,(x.2.1,(true,())))) (fun (y2:(List S31x0)×Unit)=>some (y2.1,()))))

noncomputable def P_tree_Empty_L0 (x:(List S31x0)×Sb×Unit) (y2:(Int×Int×Unit)×Unit×Sb×Unit):Option (S31x4 ⊕ S31x3) :=
 sel (ltI y2.1.2.1 (@len S31x0 x.1))
 (sel (within y2.1.2.1 (@len S31x0 x.1))
 (obind (@idx S31x0 x.1 y2.1.2.1) (fun (y3:Sb×Int×Int×Sb×Sb×Unit)=>obind (P_paths_Under (y3.1,(y2.2.2.1,()))) (fun (y4:Bool×Unit)=>sel y4.1
 (some (Sum.inr ((1:Nat),((y2.1.2.1,(y2.1.2.1,())),((),(y2.2.2.1,())))):(S31x4) ⊕ (S31x3)))
 (some (Sum.inl ((y2.1.1,(iadd IntKind.i64 y2.1.2.1 (1:Int),())),((),(y2.2.2.1,()))):(S31x4) ⊕ (S31x3))))))
 none)
 (some (Sum.inr ((0:Nat),((y2.1.1,(y2.1.2.1,())),((),(y2.2.2.1,())))):(S31x4) ⊕ (S31x3)))

noncomputable def P_tree_Empty_L1 (y3:S31x5×Unit×Sb×(List S31x0)×Unit):Option (S31x1 ⊕ S31x1) :=
 @way1 S31x1 (sel (ltI y3.1.2.1 (@len S31x0 y3.2.2.2.1))
 (sel (within y3.1.2.1 (@len S31x0 y3.2.2.2.1))
 (obind (@idx S31x0 y3.2.2.2.1 y3.1.2.1) (fun (y4:Sb×Int×Int×Sb×Sb×Unit)=>obind (P_paths_Under (y4.1,(y3.2.2.1,()))) (fun (y5:Bool×Unit)=>obind (sel (nt y5.1)
 (sel (within y3.1.1 (@len S31x0 y3.2.2.2.1))
 (obind (@idx S31x0 y3.2.2.2.1 y3.1.1) (fun (y6:Sb×Int×Int×Sb×Sb×Unit)=>obind (@idx S31x0 y3.2.2.2.1 y3.1.1) (fun (y7:Sb×Int×Int×Sb×Sb×Unit)=>obind (@idx S31x0 y3.2.2.2.1 y3.1.1) (fun (y8:Sb×Int×Int×Sb×Sb×Unit)=>some ((iadd IntKind.i64 y3.1.1 (1:Int),((),())),(@lset S31x0 y3.2.2.2.1 y3.1.1 y4,()))))))
 none)
 (some ((y3.1.1,((),())),(y3.2.2.2.1,())))) (fun (y6:(Int×Unit×Unit)×(List S31x0)×Unit)=>some (Sum.inl ((y6.1.1,(iadd IntKind.i64 y3.1.2.1 (1:Int),((),()))),((),(y3.2.2.1,(y6.2.1,())))):(S31x1) ⊕ S31x2)))))
 none)
 (some (Sum.inr ((0:Nat),((y3.1.1,(y3.1.2.1,((),()))),((),(y3.2.2.1,(y3.2.2.2.1,()))))):(S31x1) ⊕ S31x2)))

noncomputable def P_tree_Empty_L2 (y3:S31x5×Unit×Sb×(List S31x0)×Unit):Option (S31x1 ⊕ S31x1) :=
 @way1 S31x1 (sel (ltI y3.1.2.1 (@len S31x0 y3.2.2.2.1))
 (sel (within y3.1.2.1 (@len S31x0 y3.2.2.2.1))
 (obind (@idx S31x0 y3.2.2.2.1 y3.1.2.1) (fun (y4:Sb×Int×Int×Sb×Sb×Unit)=>obind (P_paths_Under (y4.1,(y3.2.2.1,()))) (fun (y5:Bool×Unit)=>obind (sel (nt y5.1)
 (sel (within y3.1.1 (@len S31x0 y3.2.2.2.1))
 (obind (@idx S31x0 y3.2.2.2.1 y3.1.1) (fun (y6:Sb×Int×Int×Sb×Sb×Unit)=>obind (@idx S31x0 y3.2.2.2.1 y3.1.1) (fun (y7:Sb×Int×Int×Sb×Sb×Unit)=>obind (@idx S31x0 y3.2.2.2.1 y3.1.1) (fun (y8:Sb×Int×Int×Sb×Sb×Unit)=>some ((iadd IntKind.i64 y3.1.1 (1:Int),((),())),(@lset S31x0 y3.2.2.2.1 y3.1.1 y4,()))))))
 none)
 (some ((y3.1.1,((),())),(y3.2.2.2.1,())))) (fun (y6:(Int×Unit×Unit)×(List S31x0)×Unit)=>some (Sum.inl ((y6.1.1,(iadd IntKind.i64 y3.1.2.1 (1:Int),((),()))),((),(y3.2.2.1,(y6.2.1,())))):(S31x1) ⊕ S31x2)))))
 none)
 (some (Sum.inr ((0:Nat),((y3.1.1,(y3.1.2.1,((),()))),((),(y3.2.2.1,(y3.2.2.2.1,()))))):(S31x1) ⊕ S31x2)))

noncomputable def P_tree_Empty (x:(List S31x0)×Sb×Unit):Option ((List S31x0)×Unit) :=
 obind (P_tree_Check (x.1,())) (fun (y1:Int×Unit)=>sel (nt (eqI y1.1 (0:Int)))
 (some (([]:List S31x0),()))
 (sel (fits (@len S31x0 x.1))
 (obind (Loop (P_tree_Empty_L0 x) (((0:Int),((0:Int),())),((),(x.2.1,())))) (fun (y2:Nat×(Int×Int×Unit)×Unit×Sb×Unit)=>sel (eqN y2.1 (0:Nat))
 (sel (eqI (-1:Int) (-1:Int))
 (some (x.1,()))
 (obind (Loop (P_tree_Empty_L1) (((-1:Int),(iadd IntKind.i64 (-1:Int) (1:Int),((),()))),((),(y2.2.2.2.1,(x.1,()))))) (fun (y3:S31x5×Unit×Sb×(List S31x0)×Unit)=>sel (inside y3.1.1 (@len S31x0 y3.2.2.2.1) (@len S31x0 y3.2.2.2.1))
 (sel (inside (0:Int) y3.1.1 (@len S31x0 (@over S31x0 y3.2.2.2.1 y3.1.1 (@lrep S31x0 (minus (@len S31x0 y3.2.2.2.1) y3.1.1) (([]:List (UInt8)),((0:Int),((0:Int),(([]:List (UInt8)),(([]:List (UInt8)),())))))))))
 (some (@sub S31x0 (@over S31x0 y3.2.2.2.1 y3.1.1 (@lrep S31x0 (minus (@len S31x0 y3.2.2.2.1) y3.1.1) (([]:List (UInt8)),((0:Int),((0:Int),(([]:List (UInt8)),(([]:List (UInt8)),()))))))) (0:Int) (minus y3.1.1 (0:Int)),()))
 none)
 none)))
 (sel (eqI y2.2.1.1 (-1:Int))
 (some (x.1,()))
 (obind (Loop (P_tree_Empty_L2) ((y2.2.1.1,(iadd IntKind.i64 y2.2.1.1 (1:Int),((),()))),((),(y2.2.2.2.1,(x.1,()))))) (fun (y3:S31x5×Unit×Sb×(List S31x0)×Unit)=>sel (inside y3.1.1 (@len S31x0 y3.2.2.2.1) (@len S31x0 y3.2.2.2.1))
 (sel (inside (0:Int) y3.1.1 (@len S31x0 (@over S31x0 y3.2.2.2.1 y3.1.1 (@lrep S31x0 (minus (@len S31x0 y3.2.2.2.1) y3.1.1) (([]:List (UInt8)),((0:Int),((0:Int),(([]:List (UInt8)),(([]:List (UInt8)),())))))))))
 (some (@sub S31x0 (@over S31x0 y3.2.2.2.1 y3.1.1 (@lrep S31x0 (minus (@len S31x0 y3.2.2.2.1) y3.1.1) (([]:List (UInt8)),((0:Int),((0:Int),(([]:List (UInt8)),(([]:List (UInt8)),()))))))) (0:Int) (minus y3.1.1 (0:Int)),()))
 none)
 none)))))
 none))

noncomputable def P_ref14_Empty (x:(List S31x0)×Sb×Unit):Option ((List S31x0)×Unit) :=
 obind (P_ref14_Is (x.1,())) (fun (y1:Bool×Unit)=>sel (nt y1.1)
 (some (([]:List S31x0),()))
 (obind (P_ref14_without (x.1,(x.2.1,(false,())))) (fun (y2:(List S31x0)×Unit)=>some (y2.1,()))))

end Go.Ge

/- What the functions of layer 16z compute, as plain programs (written by a program from what the ghost interpreter comes to). -/
namespace Go.Ge
set_option linter.unusedVariables false
set_option maxRecDepth 100000

end Go.Ge

/- What the functions of layer 15z compute, as plain programs (written by a program from what the ghost interpreter comes to). -/
namespace Go.Ge
set_option linter.unusedVariables false
set_option maxRecDepth 100000
abbrev T15zx0:=(Sb×Int×Int×Sb×Sb×Unit)
abbrev T15zx1:=((Sb×Int×Int×Int×Int×Int×Int×Sb×Unit)×Sb×Unit)
abbrev T15zx2:=((Sb×Unit) ⊕ ((Sb×Unit) ⊕ (Unit ⊕ ((T15zx0×Unit) ⊕ Unit))))
abbrev T15zx3:=((List T15zx0)×(List T15zx0)×Int×Sb×Int×Unit)
abbrev T15zx4:=(Bool×Int×Unit)
abbrev T15zx5:=(Sb×Int×Int×Int×Int×Int×Int×Sb×Unit)
abbrev T15zx6:=((List T15zx0)×Int×(List T15zx0)×Int×Unit)
abbrev T15zx7:=(Sb×Bool×Int×Unit)
abbrev T15zx8:=((List T15zx0)×(List T15zx0)×Int×Int×Unit)
abbrev T15zx9:=((List T15zx0)×Int×Unit)
abbrev T15zx10:=(Sb×(List T15zx1)×Bool×Unit×Unit)
abbrev T15zx11:=(Nat×T15zx4×Unit)
abbrev T15zx12:=(Bool×(List T15zx0)×Int×Unit)
abbrev T15zx13:=((Sb×Unit) ⊕ (Unit ⊕ ((T15zx0×Unit) ⊕ Unit)))
abbrev T15zx14:=((List UInt8)×(Int×(Int×((List UInt8)×((List UInt8)×Unit)))))
abbrev T15zx15:=((List T15zx2)×Bool×Unit×Int×Unit)
abbrev T15zx16:=(Bool×Sb×Int×Unit)
abbrev T15zx17:=(T15zx4×Unit)
abbrev T15zx18:=(Sb×Unit)
abbrev T15zx19:=(Unit×Sb×Int×Unit)

noncomputable def P_overlay_isNode_L0 (y2:(List Sb)×Unit) (y3:T15zx19×(List T15zx0)×Unit):Option ((T15zx19×(List T15zx0)×Unit) ⊕ (T15zx19×(List T15zx0)×Unit)) :=
 @way1 (T15zx19×(List T15zx0)×Unit) (sel (ltI y3.1.2.2.1 (@len Sb y2.1))
 (obind (@idx Sb y2.1 y3.1.2.2.1) (fun (y4:List (UInt8))=>obind (P_paths_Join (y3.1.2.1,(y4,()))) (fun (y5:Sb×Unit)=>sel (fits (plus (@len T15zx0 y3.2.1) (@len T15zx0 ([(y5.1,((2:Int),((0:Int),(([]:List (UInt8)),(([]:List (UInt8)),())))))]:List T15zx0))))
 (some (Sum.inl (((),(y5.1,(iadd IntKind.i64 y3.1.2.2.1 (1:Int),()))),(@app T15zx0 y3.2.1 ([(y5.1,((2:Int),((0:Int),(([]:List (UInt8)),(([]:List (UInt8)),())))))]:List T15zx0),())):((T15zx19×(List T15zx0)×Unit)) ⊕ ((Nat×T15zx19×(List T15zx0)×Unit))))
 none)))
 (some (Sum.inr ((0:Nat),(((),(y3.1.2.1,(y3.1.2.2.1,()))),(y3.2.1,()))):((T15zx19×(List T15zx0)×Unit)) ⊕ ((Nat×T15zx19×(List T15zx0)×Unit)))))

noncomputable def P_overlay_isNode (x:T15zx0×Unit):Option (Bool×Unit) :=
 obind (P_paths_Split (x.1.1,())) (fun (y1:Sb×Sb×Unit)=>obind (P_paths_Parts (y1.1,())) (fun (y2:(List Sb)×Unit)=>obind (Loop (P_overlay_isNode_L0 y2) (((),(([]:List (UInt8)),((0:Int),()))),(([]:List T15zx0),()))) (fun (y3:T15zx19×(List T15zx0)×Unit)=>sel (nt (eqS x.1.1 ([]:List (UInt8))))
 (sel (fits (plus (@len T15zx0 y3.2.1) (@len T15zx0 ([x.1]:List T15zx0))))
 (obind (P_tree_Check (@app T15zx0 y3.2.1 ([x.1]:List T15zx0),())) (fun (y4:Int×Unit)=>some (eqI y4.1 (0:Int),())))
 none)
 (some (false,())))))

noncomputable def P_overlay_isDir (x:Sb×Unit):Option (Bool×Unit) :=
 obind (sel (nt (eqS x.1 ([]:List (UInt8))))
 (obind (P_overlay_isNode ((x.1,((2:Int),((0:Int),(([]:List (UInt8)),(([]:List (UInt8)),()))))),())) (fun (y1:Bool×Unit)=>some y1.1))
 (some true)) (fun (y1:Bool)=>some (y1,()))

noncomputable def P_overlay_gone_clears (x:T15zx18×(List T15zx0)×Unit):Option ((List T15zx0)×Unit) :=
 obind (P_tree_Remove (x.2.1,(x.1.1,()))) (fun (y1:(List T15zx0)×Unit)=>some (y1.1,()))

noncomputable def P_overlay_gone_puts (x:T15zx18×(List T15zx0)×Unit):Option T15zx9 :=
 some (x.2.1,((0:Int),()))

noncomputable def P_overlay_opaque_clears (x:T15zx18×(List T15zx0)×Unit):Option ((List T15zx0)×Unit) :=
 obind (P_tree_Empty (x.2.1,(x.1.1,()))) (fun (y1:(List T15zx0)×Unit)=>some (y1.1,()))

noncomputable def P_overlay_opaque_puts (x:T15zx18×(List T15zx0)×Unit):Option T15zx9 :=
 some (x.2.1,((0:Int),()))

noncomputable def P_overlay_root_clears (x:Unit×(List T15zx0)×Unit):Option ((List T15zx0)×Unit) :=
 some (x.2.1,())

noncomputable def P_overlay_root_puts (x:Unit×(List T15zx0)×Unit):Option T15zx9 :=
 some (x.2.1,((0:Int),()))

noncomputable def P_overlay_node_clears (x:(T15zx0×Unit)×(List T15zx0)×Unit):Option ((List T15zx0)×Unit) :=
 some (x.2.1,())

noncomputable def P_overlay_node_puts_L0 (y2:(List Sb)×Unit) (y3:T15zx3×Unit):Option ((T15zx3×Unit) ⊕ (Nat×T15zx3×Unit)) :=
 sel (ltI y3.1.2.2.2.2.1 (@len Sb y2.1))
 (obind (@idx Sb y2.1 y3.1.2.2.2.2.1) (fun (y4:List (UInt8))=>obind (P_paths_Join (y3.1.2.2.2.1,(y4,()))) (fun (y5:Sb×Unit)=>obind (P_tree_Find (y3.1.1,(y5.1,()))) (fun (y6:T15zx0×Bool×Unit)=>sel (sel y6.2.1
 (eqI y6.1.2.1 (2:Int))
 false)
 (some (Sum.inl ((y3.1.1,(y3.1.2.1,(y3.1.2.2.1,(y5.1,(iadd IntKind.i64 y3.1.2.2.2.2.1 (1:Int),()))))),()):((T15zx3×Unit)) ⊕ ((Nat×T15zx3×Unit))))
 (obind (P_tree_Put (y3.1.1,((y5.1,((2:Int),((493:Int),(([]:List (UInt8)),(([]:List (UInt8)),()))))),()))) (fun (y7:(List T15zx0)×Int×Unit)=>sel (nt (eqI y7.2.1 (0:Int)))
 (some (Sum.inr ((1:Nat),((y3.1.1,(([]:List T15zx0),(y7.2.1,(y5.1,(y3.1.2.2.2.2.1,()))))),())):((T15zx3×Unit)) ⊕ ((Nat×T15zx3×Unit))))
 (some (Sum.inl ((y7.1,(y3.1.2.1,(y3.1.2.2.1,(y5.1,(iadd IntKind.i64 y3.1.2.2.2.2.1 (1:Int),()))))),()):((T15zx3×Unit)) ⊕ ((Nat×T15zx3×Unit))))))))))
 (some (Sum.inr ((0:Nat),((y3.1.1,(y3.1.2.1,(y3.1.2.2.1,(y3.1.2.2.2.1,(y3.1.2.2.2.2.1,()))))),())):((T15zx3×Unit)) ⊕ ((Nat×T15zx3×Unit))))

noncomputable def P_overlay_node_puts (x:(T15zx0×Unit)×(List T15zx0)×Unit):Option T15zx9 :=
 obind (P_paths_Split (x.1.1.1,())) (fun (y1:Sb×Sb×Unit)=>obind (P_paths_Parts (y1.1,())) (fun (y2:(List Sb)×Unit)=>obind (Loop (P_overlay_node_puts_L0 y2) ((x.2.1,(([]:List T15zx0),((0:Int),(([]:List (UInt8)),((0:Int),()))))),())) (fun (y3:Nat×T15zx3×Unit)=>sel (eqN y3.1 (0:Nat))
 (obind (P_tree_Put (y3.2.1.1,(x.1.1,()))) (fun (y4:(List T15zx0)×Int×Unit)=>some (y4.1,(y4.2.1,()))))
 (some (y3.2.1.2.1,(y3.2.1.2.2.1,()))))))

noncomputable def P_overlay_what (x:T15zx1×Unit):Option (T15zx2×Bool×Unit) :=
 obind (P_paths_Clean (x.1.1.1,())) (fun (y1:Sb×Int×Unit)=>sel (nt (eqI y1.2.1 (0:Int)))
 (some ((Sum.inr (Sum.inr (Sum.inr (Sum.inr ():((T15zx0×Unit)) ⊕ (Unit)):(Unit) ⊕ (((T15zx0×Unit) ⊕ Unit))):(T15zx18) ⊕ ((Unit ⊕ ((T15zx0×Unit) ⊕ Unit)))):(T15zx18) ⊕ (T15zx13)),(false,())))
 (obind (P_paths_Split (y1.1,())) (fun (y2:Sb×Sb×Unit)=>obind (P_paths_Mark (y2.2.1,())) (fun (y3:Int×Sb×Unit)=>sel (eqI y3.1 (1:Int))
 (obind (P_paths_Join (y2.1,(y3.2.1,()))) (fun (y4:Sb×Unit)=>obind (sel (sel (eqI x.1.1.2.1 (1:Int))
 (eqS x.1.2.1 ([]:List (UInt8)))
 false)
 (obind (P_overlay_isDir (y4.1,())) (fun (y5:Bool×Unit)=>some y5.1))
 (some false)) (fun (y5:Bool)=>some ((Sum.inl (y4.1,()):(T15zx18) ⊕ (T15zx13)),(y5,())))))
 (sel (eqI y3.1 (2:Int))
 (obind (sel (sel (eqI x.1.1.2.1 (1:Int))
 (eqS x.1.2.1 ([]:List (UInt8)))
 false)
 (obind (P_overlay_isDir (y2.1,())) (fun (y4:Bool×Unit)=>some y4.1))
 (some false)) (fun (y4:Bool)=>some ((Sum.inr (Sum.inl (y2.1,()):(T15zx18) ⊕ ((Unit ⊕ ((T15zx0×Unit) ⊕ Unit)))):(T15zx18) ⊕ (T15zx13)),(y4,()))))
 (sel (eqI y3.1 (3:Int))
 (some ((Sum.inr (Sum.inr (Sum.inr (Sum.inr ():((T15zx0×Unit)) ⊕ (Unit)):(Unit) ⊕ (((T15zx0×Unit) ⊕ Unit))):(T15zx18) ⊕ ((Unit ⊕ ((T15zx0×Unit) ⊕ Unit)))):(T15zx18) ⊕ (T15zx13)),(false,())))
 (sel (sel (eqS y1.1 ([]:List (UInt8)))
 (eqI x.1.1.2.1 (2:Int))
 false)
 (some ((Sum.inr (Sum.inr (Sum.inl ():(Unit) ⊕ (((T15zx0×Unit) ⊕ Unit))):(T15zx18) ⊕ ((Unit ⊕ ((T15zx0×Unit) ⊕ Unit)))):(T15zx18) ⊕ (T15zx13)),(true,())))
 (obind (P_overlay_isNode ((y1.1,(x.1.1.2.1,(x.1.1.2.2.1,(x.1.2.1,(x.1.1.2.2.2.2.2.2.2.1,()))))),())) (fun (y4:Bool×Unit)=>some ((Sum.inr (Sum.inr (Sum.inr (Sum.inl ((y1.1,(x.1.1.2.1,(x.1.1.2.2.1,(x.1.2.1,(x.1.1.2.2.2.2.2.2.2.1,()))))),()):((T15zx0×Unit)) ⊕ (Unit)):(Unit) ⊕ (((T15zx0×Unit) ⊕ Unit))):(T15zx18) ⊕ ((Unit ⊕ ((T15zx0×Unit) ⊕ Unit)))):(T15zx18) ⊕ (T15zx13)),(y4.1,())))))))))))

noncomputable def P_overlay_steps_L0 (x:(List T15zx1)×Unit) (y1:T15zx15×(List T15zx2)×Unit):Option ((T15zx15×(List T15zx2)×Unit) ⊕ (Nat×T15zx15×(List T15zx2)×Unit)) :=
 sel (ltI y1.1.2.2.2.1 (@len T15zx1 x.1))
 (obind (@idx T15zx1 x.1 y1.1.2.2.2.1) (fun (y2:T15zx5×Sb×Unit)=>obind (P_overlay_what (y2,())) (fun (y3:T15zx2×Bool×Unit)=>sel (nt y3.2.1)
 (some (Sum.inr ((1:Nat),((([]:List T15zx2),(false,((),(y1.1.2.2.2.1,())))),(y1.2.1,()))):((T15zx15×(List T15zx2)×Unit)) ⊕ ((Nat×T15zx15×(List T15zx2)×Unit))))
 (sel (fits (plus (@len T15zx2 y1.2.1) (@len T15zx2 ([y3.1]:List T15zx2))))
 (some (Sum.inl ((y1.1.1,(y1.1.2.1,((),(iadd IntKind.i64 y1.1.2.2.2.1 (1:Int),())))),(@app T15zx2 y1.2.1 ([y3.1]:List T15zx2),())):((T15zx15×(List T15zx2)×Unit)) ⊕ ((Nat×T15zx15×(List T15zx2)×Unit))))
 none))))
 (some (Sum.inr ((0:Nat),((y1.1.1,(y1.1.2.1,((),(y1.1.2.2.2.1,())))),(y1.2.1,()))):((T15zx15×(List T15zx2)×Unit)) ⊕ ((Nat×T15zx15×(List T15zx2)×Unit))))

noncomputable def P_overlay_steps (x:(List T15zx1)×Unit):Option ((List T15zx2)×Bool×Unit) :=
 obind (Loop (P_overlay_steps_L0 x) ((([]:List T15zx2),(false,((),((0:Int),())))),(([]:List T15zx2),()))) (fun (y1:Nat×T15zx15×(List T15zx2)×Unit)=>sel (eqN y1.1 (0:Nat))
 (some (y1.2.2.1,(true,())))
 (some (y1.2.1.1,(y1.2.1.2.1,()))))

noncomputable def P_inv_clears (x:((((List UInt8)×Unit) ⊕ (((List UInt8)×Unit) ⊕ (Unit ⊕ ((T15zx14×Unit) ⊕ Unit))))×((List T15zx14)×Unit))):Option ((List T15zx14)×Unit) :=
 (fun z=>pick (fun y=>P_overlay_gone_clears (y,x.2)) (fun z=>pick (fun y=>P_overlay_opaque_clears (y,x.2)) (fun z=>pick (fun y=>P_overlay_root_clears (y,x.2)) (fun z=>pick (fun y=>P_overlay_node_clears (y,x.2)) (fun _=>none) z) z) z) z) x.1

noncomputable def P_inv_puts (x:((((List UInt8)×Unit) ⊕ (((List UInt8)×Unit) ⊕ (Unit ⊕ ((T15zx14×Unit) ⊕ Unit))))×((List T15zx14)×Unit))):Option ((List T15zx14)×(Int×Unit)) :=
 (fun z=>pick (fun y=>P_overlay_gone_puts (y,x.2)) (fun z=>pick (fun y=>P_overlay_opaque_puts (y,x.2)) (fun z=>pick (fun y=>P_overlay_root_puts (y,x.2)) (fun z=>pick (fun y=>P_overlay_node_puts (y,x.2)) (fun _=>none) z) z) z) z) x.1

noncomputable def P_overlay_Lay_L0 (y2:(List T15zx2)×Bool×Unit) (y3:T15zx9×Unit):Option ((T15zx9×Unit) ⊕ (T15zx9×Unit)) :=
 @way1 (T15zx9×Unit) (sel (ltI y3.1.2.1 (@len T15zx2 y2.1))
 (obind (@idx T15zx2 y2.1 y3.1.2.1) (fun (y4:T15zx18 ⊕ T15zx13)=>obind (P_inv_clears (y4,(y3.1.1,()))) (fun (y5:(List T15zx0)×Unit)=>some (Sum.inl ((y5.1,(iadd IntKind.i64 y3.1.2.1 (1:Int),())),()):((T15zx9×Unit)) ⊕ ((Nat×T15zx9×Unit))))))
 (some (Sum.inr ((0:Nat),((y3.1.1,(y3.1.2.1,())),())):((T15zx9×Unit)) ⊕ ((Nat×T15zx9×Unit)))))

noncomputable def P_overlay_Lay_L1 (y2:(List T15zx2)×Bool×Unit) (y4:T15zx6×Unit):Option ((T15zx6×Unit) ⊕ (Nat×T15zx6×Unit)) :=
 sel (ltI y4.1.2.2.2.1 (@len T15zx2 y2.1))
 (obind (@idx T15zx2 y2.1 y4.1.2.2.2.1) (fun (y5:T15zx18 ⊕ T15zx13)=>obind (P_inv_puts (y5,(y4.1.2.2.1,()))) (fun (y6:(List T15zx0)×Int×Unit)=>sel (nt (eqI y6.2.1 (0:Int)))
 (some (Sum.inr ((1:Nat),((([]:List T15zx0),(y6.2.1,(y4.1.2.2.1,(y4.1.2.2.2.1,())))),())):((T15zx6×Unit)) ⊕ ((Nat×T15zx6×Unit))))
 (some (Sum.inl ((y4.1.1,(y4.1.2.1,(y6.1,(iadd IntKind.i64 y4.1.2.2.2.1 (1:Int),())))),()):((T15zx6×Unit)) ⊕ ((Nat×T15zx6×Unit)))))))
 (some (Sum.inr ((0:Nat),((y4.1.1,(y4.1.2.1,(y4.1.2.2.1,(y4.1.2.2.2.1,())))),())):((T15zx6×Unit)) ⊕ ((Nat×T15zx6×Unit))))

noncomputable def P_overlay_Lay (x:(List T15zx0)×(List T15zx1)×Unit):Option T15zx9 :=
 obind (P_tree_Check (x.1,())) (fun (y1:Int×Unit)=>sel (nt (eqI y1.1 (0:Int)))
 (some (([]:List T15zx0),((1:Int),())))
 (obind (P_overlay_steps (x.2.1,())) (fun (y2:(List T15zx2)×Bool×Unit)=>sel (nt y2.2.1)
 (some (([]:List T15zx0),((10:Int),())))
 (sel (fits (plus (@len T15zx0 ([]:List T15zx0)) (@len T15zx0 x.1)))
 (obind (Loop (P_overlay_Lay_L0 y2) ((@app T15zx0 ([]:List T15zx0) x.1,((0:Int),())),())) (fun (y3:T15zx9×Unit)=>obind (Loop (P_overlay_Lay_L1 y2) ((([]:List T15zx0),((0:Int),(y3.1.1,((0:Int),())))),())) (fun (y4:Nat×T15zx6×Unit)=>sel (eqN y4.1 (0:Nat))
 (some (y4.2.1.2.2.1,((0:Int),())))
 (some (y4.2.1.1,(y4.2.1.2.1,()))))))
 none))))

noncomputable def P_overlay_Check (x:Sb×Unit):Option (Int×Unit) :=
 obind (P_tar_Read (x.1,())) (fun (y1:(List T15zx1)×Int×Unit)=>obind (P_overlay_steps (y1.1,())) (fun (y2:(List T15zx2)×Bool×Unit)=>sel (sel (nt (nt (eqI y1.2.1 (0:Int))))
 (nt y2.2.1)
 true)
 (some ((10:Int),()))
 (some ((0:Int),()))))

noncomputable def P_law15_file (x:Sb×Sb×Unit):Option (T15zx1×Unit) :=
 some (((x.1,((1:Int),((420:Int),((0:Int),((0:Int),(@len UInt8 x.2.1,((0:Int),(([]:List (UInt8)),())))))))),(x.2.1,())),())

noncomputable def P_law15_awake (x:Unit):Option (Bool×Unit) :=
 obind (P_law15_file (([(46:UInt8),(47:UInt8),(100:UInt8),(47:UInt8),(97:UInt8)]:List (UInt8)),(([(120:UInt8)]:List (UInt8)),()))) (fun (y1:T15zx1×Unit)=>obind (P_law15_file (([(98:UInt8)]:List (UInt8)),(([(121:UInt8)]:List (UInt8)),()))) (fun (y2:T15zx1×Unit)=>obind (P_overlay_Lay (([]:List T15zx0),(([y1.1,y2.1]:List T15zx1),()))) (fun (y3:(List T15zx0)×Int×Unit)=>obind (P_law15_file (([(100:UInt8),(47:UInt8),(46:UInt8),(119:UInt8),(104:UInt8),(46:UInt8),(97:UInt8)]:List (UInt8)),(([]:List (UInt8)),()))) (fun (y4:T15zx1×Unit)=>obind (P_law15_file (([(46:UInt8),(119:UInt8),(104:UInt8),(46:UInt8),(98:UInt8)]:List (UInt8)),(([]:List (UInt8)),()))) (fun (y5:T15zx1×Unit)=>obind (P_law15_file (([(100:UInt8),(47:UInt8),(97:UInt8)]:List (UInt8)),(([(122:UInt8)]:List (UInt8)),()))) (fun (y6:T15zx1×Unit)=>obind (P_overlay_Lay (y3.1,(([y4.1,y5.1,y6.1]:List T15zx1),()))) (fun (y7:(List T15zx0)×Int×Unit)=>obind (P_law15_file (([(46:UInt8),(46:UInt8),(47:UInt8),(120:UInt8)]:List (UInt8)),(([]:List (UInt8)),()))) (fun (y8:T15zx1×Unit)=>obind (P_overlay_Lay (y7.1,(([y8.1]:List T15zx1),()))) (fun (y9:(List T15zx0)×Int×Unit)=>obind (P_overlay_Check (([(120:UInt8)]:List (UInt8)),())) (fun (y10:Int×Unit)=>obind (sel (sel (eqI y3.2.1 (0:Int))
 (eqI (@len T15zx0 y3.1) (3:Int))
 false)
 (obind (@idx T15zx0 y3.1 (1:Int)) (fun (y11:Sb×Int×Int×Sb×Sb×Unit)=>some (eqS y11.1 ([(100:UInt8)]:List (UInt8)))))
 (some false)) (fun (y11:Bool)=>obind (sel y11
 (obind (@idx T15zx0 y3.1 (1:Int)) (fun (y12:Sb×Int×Int×Sb×Sb×Unit)=>some (eqI y12.2.2.1 (493:Int))))
 (some false)) (fun (y12:Bool)=>obind (sel (sel (sel y12
 (eqI y7.2.1 (0:Int))
 false)
 (eqI (@len T15zx0 y7.1) (2:Int))
 false)
 (obind (@idx T15zx0 y7.1 (1:Int)) (fun (y13:Sb×Int×Int×Sb×Sb×Unit)=>some (eqS y13.2.2.2.1 ([(122:UInt8)]:List (UInt8)))))
 (some false)) (fun (y13:Bool)=>obind (sel (sel (sel y13
 (eqI y9.2.1 (10:Int))
 false)
 (eqI y10.1 (10:Int))
 false)
 (sel (inside (0:Int) (1024:Int) (1024:Int))
 (sel (fits (1024:Int))
 (obind (P_overlay_Check (intsBytes (@lrep Int (1024:Int) (0:Int)),())) (fun (y14:Int×Unit)=>some (eqI y14.1 (0:Int))))
 none)
 none)
 (some false)) (fun (y14:Bool)=>some (y14,())))))))))))))))

noncomputable def P_ref15_node (x:T15zx1×Sb×Unit):Option (T15zx0×Unit) :=
 some ((x.2.1,(x.1.1.2.1,(x.1.1.2.2.1,(x.1.2.1,(x.1.1.2.2.2.2.2.2.2.1,()))))),())

noncomputable def P_ref15_isPath_L0 (y1:(List Sb)×Unit) (y2:T15zx16×Unit):Option ((T15zx16×Unit) ⊕ (Nat×T15zx16×Unit)) :=
 sel (ltI y2.1.2.2.1 (@len Sb y1.1))
 (obind (@idx Sb y1.1 y2.1.2.2.1) (fun (y3:List (UInt8))=>obind (P_ref07_Join (y2.1.2.1,(y3,()))) (fun (y4:Sb×Unit)=>obind (P_ref14_May ((y4.1,((2:Int),((0:Int),(([]:List (UInt8)),(([]:List (UInt8)),()))))),())) (fun (y5:Bool×Unit)=>sel (nt y5.1)
 (some (Sum.inr ((1:Nat),((false,(y4.1,(y2.1.2.2.1,()))),())):((T15zx16×Unit)) ⊕ ((Nat×T15zx16×Unit))))
 (some (Sum.inl ((y2.1.1,(y4.1,(iadd IntKind.i64 y2.1.2.2.1 (1:Int),()))),()):((T15zx16×Unit)) ⊕ ((Nat×T15zx16×Unit))))))))
 (some (Sum.inr ((0:Nat),((y2.1.1,(y2.1.2.1,(y2.1.2.2.1,()))),())):((T15zx16×Unit)) ⊕ ((Nat×T15zx16×Unit))))

noncomputable def P_ref15_isPath (x:Sb×Unit):Option (Bool×Unit) :=
 obind (P_ref07_Parts (x.1,())) (fun (y1:(List Sb)×Unit)=>obind (Loop (P_ref15_isPath_L0 y1) ((false,(([]:List (UInt8)),((0:Int),()))),())) (fun (y2:Nat×T15zx16×Unit)=>sel (eqN y2.1 (0:Nat))
 (some (nt (eqS x.1 ([]:List (UInt8))),()))
 (some (y2.2.1.1,()))))

noncomputable def P_ref15_what (x:T15zx1×Unit):Option (Int×Sb×Bool×Unit) :=
 obind (P_ref07_Clean (x.1.1.1,())) (fun (y1:Sb×Int×Unit)=>sel (nt (eqI y1.2.1 (0:Int)))
 (some ((0:Int),(([]:List (UInt8)),(false,()))))
 (obind (P_ref07_Split (y1.1,())) (fun (y2:Sb×Sb×Unit)=>obind (P_ref07_Mark (y2.2.1,())) (fun (y3:Int×Sb×Unit)=>sel (eqI y3.1 (1:Int))
 (obind (P_ref07_Join (y2.1,(y3.2.1,()))) (fun (y4:Sb×Unit)=>obind (sel (sel (eqI x.1.1.2.1 (1:Int))
 (eqS x.1.2.1 ([]:List (UInt8)))
 false)
 (obind (P_ref15_isPath (y4.1,())) (fun (y5:Bool×Unit)=>some y5.1))
 (some false)) (fun (y5:Bool)=>some (y3.1,(y4.1,(y5,()))))))
 (sel (eqI y3.1 (2:Int))
 (obind (sel (sel (eqI x.1.1.2.1 (1:Int))
 (eqS x.1.2.1 ([]:List (UInt8)))
 false)
 (obind (sel (nt (eqS y2.1 ([]:List (UInt8))))
 (obind (P_ref15_isPath (y2.1,())) (fun (y4:Bool×Unit)=>some y4.1))
 (some true)) (fun (y4:Bool)=>some y4))
 (some false)) (fun (y4:Bool)=>some (y3.1,(y2.1,(y4,())))))
 (sel (eqI y3.1 (0:Int))
 (obind (sel (nt (sel (eqS y1.1 ([]:List (UInt8)))
 (eqI x.1.1.2.1 (2:Int))
 false))
 (obind (P_ref15_node (x.1,(y1.1,()))) (fun (y4:T15zx0×Unit)=>obind (P_ref14_May (y4.1,())) (fun (y5:Bool×Unit)=>obind (sel y5.1
 (obind (P_ref15_isPath (y1.1,())) (fun (y6:Bool×Unit)=>some y6.1))
 (some false)) (fun (y6:Bool)=>some y6))))
 (some true)) (fun (y4:Bool)=>some (y3.1,(y1.1,(y4,())))))
 (some ((0:Int),(([]:List (UInt8)),(false,()))))))))))

noncomputable def P_ref15_Clean_L0 (x:(List T15zx1)×Unit) (y1:T15zx4×Unit):Option (T15zx17 ⊕ T15zx11) :=
 sel (ltI y1.1.2.1 (@len T15zx1 x.1))
 (obind (@idx T15zx1 x.1 y1.1.2.1) (fun (y2:T15zx5×Sb×Unit)=>obind (P_ref15_what (y2,())) (fun (y3:Int×Sb×Bool×Unit)=>sel (nt y3.2.2.1)
 (some (Sum.inr ((1:Nat),((false,(y1.1.2.1,())),())):(T15zx17) ⊕ (T15zx11)))
 (some (Sum.inl ((y1.1.1,(iadd IntKind.i64 y1.1.2.1 (1:Int),())),()):(T15zx17) ⊕ (T15zx11))))))
 (some (Sum.inr ((0:Nat),((y1.1.1,(y1.1.2.1,())),())):(T15zx17) ⊕ (T15zx11)))

noncomputable def P_ref15_Clean (x:(List T15zx1)×Unit):Option (Bool×Unit) :=
 obind (Loop (P_ref15_Clean_L0 x) ((false,((0:Int),())),())) (fun (y1:Nat×T15zx4×Unit)=>sel (eqN y1.1 (0:Nat))
 (some (true,()))
 (some (y1.2.1.1,())))

noncomputable def P_ref15_dirs_L0 (y1:(List Sb)×Unit) (y2:T15zx3×Unit):Option ((T15zx3×Unit) ⊕ (Nat×T15zx3×Unit)) :=
 sel (ltI (iadd IntKind.i64 y2.1.2.2.2.2.1 (1:Int)) (@len Sb y1.1))
 (obind (@idx Sb y1.1 y2.1.2.2.2.2.1) (fun (y3:List (UInt8))=>obind (P_ref07_Join (y2.1.2.2.2.1,(y3,()))) (fun (y4:Sb×Unit)=>obind (P_ref14_Find (y2.1.1,(y4.1,()))) (fun (y5:T15zx0×Bool×Unit)=>sel (sel y5.2.1
 (eqI y5.1.2.1 (2:Int))
 false)
 (some (Sum.inl ((y2.1.1,(y2.1.2.1,(y2.1.2.2.1,(y4.1,(iadd IntKind.i64 y2.1.2.2.2.2.1 (1:Int),()))))),()):((T15zx3×Unit)) ⊕ ((Nat×T15zx3×Unit))))
 (obind (P_ref14_Put (y2.1.1,((y4.1,((2:Int),((493:Int),(([]:List (UInt8)),(([]:List (UInt8)),()))))),()))) (fun (y6:(List T15zx0)×Int×Unit)=>sel (nt (eqI y6.2.1 (0:Int)))
 (some (Sum.inr ((1:Nat),((y2.1.1,(([]:List T15zx0),(y6.2.1,(y4.1,(y2.1.2.2.2.2.1,()))))),())):((T15zx3×Unit)) ⊕ ((Nat×T15zx3×Unit))))
 (some (Sum.inl ((y6.1,(y2.1.2.1,(y2.1.2.2.1,(y4.1,(iadd IntKind.i64 y2.1.2.2.2.2.1 (1:Int),()))))),()):((T15zx3×Unit)) ⊕ ((Nat×T15zx3×Unit))))))))))
 (some (Sum.inr ((0:Nat),((y2.1.1,(y2.1.2.1,(y2.1.2.2.1,(y2.1.2.2.2.1,(y2.1.2.2.2.2.1,()))))),())):((T15zx3×Unit)) ⊕ ((Nat×T15zx3×Unit))))

noncomputable def P_ref15_dirs (x:(List T15zx0)×Sb×Unit):Option T15zx9 :=
 obind (P_ref07_Parts (x.2.1,())) (fun (y1:(List Sb)×Unit)=>obind (Loop (P_ref15_dirs_L0 y1) ((x.1,(([]:List T15zx0),((0:Int),(([]:List (UInt8)),((0:Int),()))))),())) (fun (y2:Nat×T15zx3×Unit)=>sel (eqN y2.1 (0:Nat))
 (some (y2.2.1.1,((0:Int),())))
 (some (y2.2.1.2.1,(y2.2.1.2.2.1,())))))

noncomputable def P_ref15_Lay_L0 (x:(List T15zx0)×(List T15zx1)×Unit) (y3:T15zx9×Unit):Option ((T15zx9×Unit) ⊕ (T15zx9×Unit)) :=
 @way1 (T15zx9×Unit) (sel (ltI y3.1.2.1 (@len T15zx1 x.2.1))
 (obind (@idx T15zx1 x.2.1 y3.1.2.1) (fun (y4:T15zx5×Sb×Unit)=>obind (P_ref15_what (y4,())) (fun (y5:Int×Sb×Bool×Unit)=>obind (sel (eqI y5.1 (1:Int))
 (obind (P_ref14_Remove (y3.1.1,(y5.2.1,()))) (fun (y6:(List T15zx0)×Unit)=>some ((y6.1,()),())))
 (obind (sel (eqI y5.1 (2:Int))
 (obind (P_ref14_Empty (y3.1.1,(y5.2.1,()))) (fun (y6:(List T15zx0)×Unit)=>some ((y6.1,()),())))
 (some ((y3.1.1,()),()))) (fun (y6:((List T15zx0)×Unit)×Unit)=>some ((y6.1.1,()),())))) (fun (y6:((List T15zx0)×Unit)×Unit)=>some (Sum.inl ((y6.1.1,(iadd IntKind.i64 y3.1.2.1 (1:Int),())),()):((T15zx9×Unit)) ⊕ ((Nat×T15zx9×Unit)))))))
 (some (Sum.inr ((0:Nat),((y3.1.1,(y3.1.2.1,())),())):((T15zx9×Unit)) ⊕ ((Nat×T15zx9×Unit)))))

noncomputable def P_ref15_Lay_L1 (x:(List T15zx0)×(List T15zx1)×Unit) (y4:T15zx8×Unit):Option ((T15zx8×Unit) ⊕ (Nat×T15zx8×Unit)) :=
 sel (ltI y4.1.2.2.2.1 (@len T15zx1 x.2.1))
 (obind (@idx T15zx1 x.2.1 y4.1.2.2.2.1) (fun (y5:T15zx5×Sb×Unit)=>obind (P_ref15_what (y5,())) (fun (y6:Int×Sb×Bool×Unit)=>sel (sel (nt (nt (eqI y6.1 (0:Int))))
 (eqS y6.2.1 ([]:List (UInt8)))
 true)
 (some (Sum.inl ((y4.1.1,(y4.1.2.1,(y4.1.2.2.1,(iadd IntKind.i64 y4.1.2.2.2.1 (1:Int),())))),()):((T15zx8×Unit)) ⊕ ((Nat×T15zx8×Unit))))
 (obind (P_ref15_dirs (y4.1.1,(y6.2.1,()))) (fun (y7:(List T15zx0)×Int×Unit)=>sel (nt (eqI y7.2.1 (0:Int)))
 (some (Sum.inr ((1:Nat),((y4.1.1,(([]:List T15zx0),(y7.2.1,(y4.1.2.2.2.1,())))),())):((T15zx8×Unit)) ⊕ ((Nat×T15zx8×Unit))))
 (obind (@idx T15zx1 x.2.1 y4.1.2.2.2.1) (fun (y8:T15zx5×Sb×Unit)=>obind (P_ref15_node (y8,(y6.2.1,()))) (fun (y9:T15zx0×Unit)=>obind (P_ref14_Put (y7.1,(y9.1,()))) (fun (y10:(List T15zx0)×Int×Unit)=>sel (nt (eqI y10.2.1 (0:Int)))
 (some (Sum.inr ((1:Nat),((y4.1.1,(([]:List T15zx0),(y10.2.1,(y4.1.2.2.2.1,())))),())):((T15zx8×Unit)) ⊕ ((Nat×T15zx8×Unit))))
 (some (Sum.inl ((y10.1,(y4.1.2.1,(y4.1.2.2.1,(iadd IntKind.i64 y4.1.2.2.2.1 (1:Int),())))),()):((T15zx8×Unit)) ⊕ ((Nat×T15zx8×Unit)))))))))))))
 (some (Sum.inr ((0:Nat),((y4.1.1,(y4.1.2.1,(y4.1.2.2.1,(y4.1.2.2.2.1,())))),())):((T15zx8×Unit)) ⊕ ((Nat×T15zx8×Unit))))

noncomputable def P_ref15_Lay (x:(List T15zx0)×(List T15zx1)×Unit):Option T15zx9 :=
 obind (P_ref14_Is (x.1,())) (fun (y1:Bool×Unit)=>sel (nt y1.1)
 (some (([]:List T15zx0),((1:Int),())))
 (obind (P_ref15_Clean (x.2.1,())) (fun (y2:Bool×Unit)=>sel (nt y2.1)
 (some (([]:List T15zx0),((10:Int),())))
 (obind (Loop (P_ref15_Lay_L0 x) ((x.1,((0:Int),())),())) (fun (y3:T15zx9×Unit)=>obind (Loop (P_ref15_Lay_L1 x) ((y3.1.1,(([]:List T15zx0),((0:Int),((0:Int),())))),())) (fun (y4:Nat×T15zx8×Unit)=>sel (eqN y4.1 (0:Nat))
 (some (y4.2.1.1,((0:Int),())))
 (some (y4.2.1.2.1,(y4.2.1.2.2.1,())))))))))

noncomputable def P_overlay_Apply (x:(List T15zx0)×Sb×Unit):Option T15zx9 :=
 obind (P_tar_Read (x.2.1,())) (fun (y1:(List T15zx1)×Int×Unit)=>obind (sel (nt (eqI y1.2.1 (0:Int)))
 (obind (P_tree_Check (x.1,())) (fun (y2:Int×Unit)=>some (eqI y2.1 (0:Int))))
 (some false)) (fun (y2:Bool)=>sel y2
 (some (([]:List T15zx0),((10:Int),())))
 (obind (P_overlay_Lay (x.1,(y1.1,()))) (fun (y3:(List T15zx0)×Int×Unit)=>some (y3.1,(y3.2.1,()))))))

noncomputable def P_ref12_Zero_L0 (x:Sb×Unit) (y1:T15zx4×Unit):Option (T15zx17 ⊕ T15zx11) :=
 sel (ltI y1.1.2.1 (@len UInt8 x.1))
 (obind (@idx UInt8 x.1 y1.1.2.1) (fun (y2:UInt8)=>sel (nt (eqI (u8 y2) (0:Int)))
 (some (Sum.inr ((1:Nat),((false,(y1.1.2.1,())),())):(T15zx17) ⊕ (T15zx11)))
 (some (Sum.inl ((y1.1.1,(iadd IntKind.i64 y1.1.2.1 (1:Int),())),()):(T15zx17) ⊕ (T15zx11)))))
 (some (Sum.inr ((0:Nat),((y1.1.1,(y1.1.2.1,())),())):(T15zx17) ⊕ (T15zx11)))

noncomputable def P_ref12_Zero (x:Sb×Unit):Option (Bool×Unit) :=
 obind (Loop (P_ref12_Zero_L0 x) ((false,((0:Int),())),())) (fun (y1:Nat×T15zx4×Unit)=>sel (eqN y1.1 (0:Nat))
 (some (eqI (@len UInt8 x.1) (512:Int),()))
 (some (y1.2.1.1,())))

noncomputable def P_ref13_zero_L0 (x:Sb×Unit) (y2:T15zx4×Unit):Option (T15zx17 ⊕ T15zx11) :=
 sel (ltI y2.1.2.1 (@len UInt8 x.1))
 (obind (@idx UInt8 x.1 y2.1.2.1) (fun (y3:UInt8)=>sel (nt (eqI (u8 y3) (0:Int)))
 (some (Sum.inr ((1:Nat),((false,(y2.1.2.1,())),())):(T15zx17) ⊕ (T15zx11)))
 (some (Sum.inl ((y2.1.1,(iadd IntKind.i64 y2.1.2.1 (1:Int),())),()):(T15zx17) ⊕ (T15zx11)))))
 (some (Sum.inr ((0:Nat),((y2.1.1,(y2.1.2.1,())),())):(T15zx17) ⊕ (T15zx11)))

noncomputable def P_ref13_zero (x:Sb×Unit):Option (Bool×Unit) :=
 obind (sel (nt (ltI (@len UInt8 x.1) (1024:Int)))
 (sel (eqI (512:Int) (0:Int))
 none
 (some (nt (eqI (irem (@len UInt8 x.1) (512:Int)) (0:Int)))))
 (some true)) (fun (y1:Bool)=>sel y1
 (some (false,()))
 (obind (Loop (P_ref13_zero_L0 x) ((false,((0:Int),())),())) (fun (y2:Nat×T15zx4×Unit)=>sel (eqN y2.1 (0:Nat))
 (some (true,()))
 (some (y2.2.1.1,())))))

noncomputable def P_ref12_number_L0 (x:Sb×Unit) (y1:(Int×Unit)×Unit):Option (((Int×Unit)×Unit) ⊕ ((Int×Unit)×Unit)) :=
 @way1 ((Int×Unit)×Unit) (obind (sel (ltI y1.1.1 (@len UInt8 x.1))
 (obind (@idx UInt8 x.1 y1.1.1) (fun (y2:UInt8)=>some (leI (48:Int) (u8 y2))))
 (some false)) (fun (y2:Bool)=>obind (sel y2
 (obind (@idx UInt8 x.1 y1.1.1) (fun (y3:UInt8)=>some (leI (u8 y3) (55:Int))))
 (some false)) (fun (y3:Bool)=>sel y3
 (some (Sum.inl ((iadd IntKind.i64 y1.1.1 (1:Int),()),()):(((Int×Unit)×Unit)) ⊕ ((Nat×(Int×Unit)×Unit))))
 (some (Sum.inr ((0:Nat),((y1.1.1,()),())):(((Int×Unit)×Unit)) ⊕ ((Nat×(Int×Unit)×Unit)))))))

noncomputable def P_ref12_number_L1 (x:Sb×Unit) (y2:(Int×Int×Unit)×Unit):Option (((Int×Int×Unit)×Unit) ⊕ (Nat×(Int×Int×Unit)×Unit)) :=
 sel (ltI y2.1.2.1 (@len UInt8 x.1))
 (obind (@idx UInt8 x.1 y2.1.2.1) (fun (y3:UInt8)=>obind (sel (nt (eqI (u8 y3) (0:Int)))
 (obind (@idx UInt8 x.1 y2.1.2.1) (fun (y4:UInt8)=>some (nt (eqI (u8 y4) (32:Int)))))
 (some false)) (fun (y4:Bool)=>sel y4
 (some (Sum.inr ((1:Nat),(((-1:Int),(y2.1.2.1,())),())):(((Int×Int×Unit)×Unit)) ⊕ ((Nat×(Int×Int×Unit)×Unit))))
 (some (Sum.inl ((y2.1.1,(iadd IntKind.i64 y2.1.2.1 (1:Int),())),()):(((Int×Int×Unit)×Unit)) ⊕ ((Nat×(Int×Int×Unit)×Unit)))))))
 (some (Sum.inr ((0:Nat),((y2.1.1,(y2.1.2.1,())),())):(((Int×Int×Unit)×Unit)) ⊕ ((Nat×(Int×Int×Unit)×Unit))))

noncomputable def P_ref12_number (x:Sb×Unit):Option (Int×Unit) :=
 obind (Loop (P_ref12_number_L0 x) (((0:Int),()),())) (fun (y1:(Int×Unit)×Unit)=>sel (eqI y1.1.1 (@len UInt8 x.1))
 (some ((-1:Int),()))
 (obind (Loop (P_ref12_number_L1 x) (((0:Int),(y1.1.1,())),())) (fun (y2:Nat×(Int×Int×Unit)×Unit)=>sel (eqN y2.1 (0:Nat))
 (sel (inside (0:Int) y1.1.1 (@len UInt8 x.1))
 (obind (P_ref01_FromOctal (@sub UInt8 x.1 (0:Int) (minus y1.1.1 (0:Int)),())) (fun (y3:Int×Bool×Unit)=>sel (nt y3.2.1)
 (some ((-1:Int),()))
 (some (y3.1,()))))
 none)
 (some (y2.2.1.1,())))))

noncomputable def P_ref12_text_L1 (x:Sb×Unit) (y3:T15zx7×Unit):Option ((T15zx7×Unit) ⊕ (Nat×T15zx7×Unit)) :=
 sel (ltI y3.1.2.2.1 (@len UInt8 x.1))
 (obind (@idx UInt8 x.1 y3.1.2.2.1) (fun (y4:UInt8)=>sel (nt (eqI (u8 y4) (0:Int)))
 (some (Sum.inr ((1:Nat),((([]:List (UInt8)),(false,(y3.1.2.2.1,()))),())):((T15zx7×Unit)) ⊕ ((Nat×T15zx7×Unit))))
 (some (Sum.inl ((y3.1.1,(y3.1.2.1,(iadd IntKind.i64 y3.1.2.2.1 (1:Int),()))),()):((T15zx7×Unit)) ⊕ ((Nat×T15zx7×Unit))))))
 (some (Sum.inr ((0:Nat),((y3.1.1,(y3.1.2.1,(y3.1.2.2.1,()))),())):((T15zx7×Unit)) ⊕ ((Nat×T15zx7×Unit))))

noncomputable def P_ref12_text_L0 (x:Sb×Unit) (y1:T15zx7×Unit):Option ((T15zx7×Unit) ⊕ (Nat×T15zx7×Unit)) :=
 sel (ltI y1.1.2.2.1 (@len UInt8 x.1))
 (obind (@idx UInt8 x.1 y1.1.2.2.1) (fun (y2:UInt8)=>sel (eqI (u8 y2) (0:Int))
 (obind (Loop (P_ref12_text_L1 x) ((y1.1.1,(y1.1.2.1,(y1.1.2.2.1,()))),())) (fun (y3:Nat×T15zx7×Unit)=>sel (eqN y3.1 (0:Nat))
 (sel (inside (0:Int) y1.1.2.2.1 (@len UInt8 x.1))
 (some (Sum.inr ((1:Nat),((@sub UInt8 x.1 (0:Int) (minus y1.1.2.2.1 (0:Int)),(true,(y1.1.2.2.1,()))),())):((T15zx7×Unit)) ⊕ ((Nat×T15zx7×Unit))))
 none)
 (some (Sum.inr ((1:Nat),((y3.2.1.1,(y3.2.1.2.1,(y1.1.2.2.1,()))),())):((T15zx7×Unit)) ⊕ ((Nat×T15zx7×Unit))))))
 (some (Sum.inl ((y1.1.1,(y1.1.2.1,(iadd IntKind.i64 y1.1.2.2.1 (1:Int),()))),()):((T15zx7×Unit)) ⊕ ((Nat×T15zx7×Unit))))))
 (some (Sum.inr ((0:Nat),((y1.1.1,(y1.1.2.1,(y1.1.2.2.1,()))),())):((T15zx7×Unit)) ⊕ ((Nat×T15zx7×Unit))))

noncomputable def P_ref12_text (x:Sb×Unit):Option (Sb×Bool×Unit) :=
 obind (Loop (P_ref12_text_L0 x) ((([]:List (UInt8)),(false,((0:Int),()))),())) (fun (y1:Nat×T15zx7×Unit)=>sel (eqN y1.1 (0:Nat))
 (some (x.1,(true,())))
 (some (y1.2.1.1,(y1.2.1.2.1,()))))

noncomputable def P_ref12_Take (x:Sb×Unit):Option (T15zx5×Int×Unit) :=
 obind (sel (nt (nt (eqI (@len UInt8 x.1) (512:Int))))
 (sel (inside (257:Int) (265:Int) (@len UInt8 x.1))
 (some (nt (eqS (@sub UInt8 x.1 (257:Int) (minus (265:Int) (257:Int))) ([(117:UInt8),(115:UInt8),(116:UInt8),(97:UInt8),(114:UInt8),(0:UInt8),(48:UInt8),(48:UInt8)]:List (UInt8)))))
 none)
 (some true)) (fun (y1:Bool)=>obind (sel (nt y1)
 (sel (inside (148:Int) (156:Int) (@len UInt8 x.1))
 (obind (P_ref12_number (@sub UInt8 x.1 (148:Int) (minus (156:Int) (148:Int)),())) (fun (y2:Int×Unit)=>obind (P_ref12_Sum (x.1,())) (fun (y3:Int×Unit)=>some (nt (eqI y2.1 y3.1)))))
 none)
 (some true)) (fun (y2:Bool)=>sel y2
 (some ((([]:List (UInt8)),((0:Int),((0:Int),((0:Int),((0:Int),((0:Int),((0:Int),(([]:List (UInt8)),())))))))),((2:Int),())))
 (sel (inside (0:Int) (100:Int) (@len UInt8 x.1))
 (obind (P_ref12_text (@sub UInt8 x.1 (0:Int) (minus (100:Int) (0:Int)),())) (fun (y3:Sb×Bool×Unit)=>sel (inside (157:Int) (257:Int) (@len UInt8 x.1))
 (obind (P_ref12_text (@sub UInt8 x.1 (157:Int) (minus (257:Int) (157:Int)),())) (fun (y4:Sb×Bool×Unit)=>sel (inside (345:Int) (500:Int) (@len UInt8 x.1))
 (obind (P_ref12_text (@sub UInt8 x.1 (345:Int) (minus (500:Int) (345:Int)),())) (fun (y5:Sb×Bool×Unit)=>sel (inside (100:Int) (108:Int) (@len UInt8 x.1))
 (obind (P_ref12_number (@sub UInt8 x.1 (100:Int) (minus (108:Int) (100:Int)),())) (fun (y6:Int×Unit)=>sel (inside (108:Int) (116:Int) (@len UInt8 x.1))
 (obind (P_ref12_number (@sub UInt8 x.1 (108:Int) (minus (116:Int) (108:Int)),())) (fun (y7:Int×Unit)=>sel (inside (116:Int) (124:Int) (@len UInt8 x.1))
 (obind (P_ref12_number (@sub UInt8 x.1 (116:Int) (minus (124:Int) (116:Int)),())) (fun (y8:Int×Unit)=>sel (inside (124:Int) (136:Int) (@len UInt8 x.1))
 (obind (P_ref12_number (@sub UInt8 x.1 (124:Int) (minus (136:Int) (124:Int)),())) (fun (y9:Int×Unit)=>sel (inside (136:Int) (148:Int) (@len UInt8 x.1))
 (obind (P_ref12_number (@sub UInt8 x.1 (136:Int) (minus (148:Int) (136:Int)),())) (fun (y10:Int×Unit)=>obind (sel (nt (eqS y5.1 ([]:List (UInt8))))
 (sel (fits (plus (@len UInt8 y5.1) (@len UInt8 ([(47:UInt8)]:List (UInt8)))))
 (sel (fits (plus (@len UInt8 (@app UInt8 y5.1 ([(47:UInt8)]:List (UInt8)))) (@len UInt8 y3.1)))
 (some ((),((@app UInt8 (@app UInt8 y5.1 ([(47:UInt8)]:List (UInt8))) y3.1,((0:Int),(y6.1,(y7.1,(y8.1,(y9.1,(y10.1,(([]:List (UInt8)),())))))))),())))
 none)
 none)
 (some ((),((y3.1,((0:Int),(y6.1,(y7.1,(y8.1,(y9.1,(y10.1,(([]:List (UInt8)),())))))))),())))) (fun (y11:Unit×T15zx5×Unit)=>obind (@idx UInt8 x.1 (156:Int)) (fun (y12:UInt8)=>obind (sel (nt (sel (nt (sel (nt (nt y3.2.1))
 (nt y4.2.1)
 true))
 (nt y5.2.1)
 true))
 (obind (P_ref12_may (((sel (((sel (eqI (u8 y12) (48:Int))
 ((eqI (u8 y12) (48:Int),()),())
 ((eqI (u8 y12) (0:Int),()),())).1).1)
 ((),((y11.2.1.1,((1:Int),y11.2.1.2.2)),()))
 ((),(((sel (eqI (u8 y12) (53:Int))
 ((),((y11.2.1.1,((2:Int),y11.2.1.2.2)),()))
 ((),(((sel (eqI (u8 y12) (50:Int))
 ((),((y11.2.1.1,((3:Int),(y11.2.1.2.2.1,(y11.2.1.2.2.2.1,(y11.2.1.2.2.2.2.1,(y11.2.1.2.2.2.2.2.1,(y11.2.1.2.2.2.2.2.2.1,(y4.1,y11.2.1.2.2.2.2.2.2.2.2)))))))),()))
 ((),(y11.2.1,()))).2).1,()))).2).1,()))).2).1,((256:Int),()))) (fun (y13:Bool×Unit)=>some (nt y13.1)))
 (some true)) (fun (y13:Bool)=>sel y13
 (some ((([]:List (UInt8)),((0:Int),((0:Int),((0:Int),((0:Int),((0:Int),((0:Int),(([]:List (UInt8)),())))))))),((2:Int),())))
 (some (((sel (((sel (eqI (u8 y12) (48:Int))
 ((eqI (u8 y12) (48:Int),()),())
 ((eqI (u8 y12) (0:Int),()),())).1).1)
 ((),((y11.2.1.1,((1:Int),y11.2.1.2.2)),()))
 ((),(((sel (eqI (u8 y12) (53:Int))
 ((),((y11.2.1.1,((2:Int),y11.2.1.2.2)),()))
 ((),(((sel (eqI (u8 y12) (50:Int))
 ((),((y11.2.1.1,((3:Int),(y11.2.1.2.2.1,(y11.2.1.2.2.2.1,(y11.2.1.2.2.2.2.1,(y11.2.1.2.2.2.2.2.1,(y11.2.1.2.2.2.2.2.2.1,(y4.1,y11.2.1.2.2.2.2.2.2.2.2)))))))),()))
 ((),(y11.2.1,()))).2).1,()))).2).1,()))).2).1,((0:Int),()))))))))
 none))
 none))
 none))
 none))
 none))
 none))
 none))
 none)))

noncomputable def P_ref13_Parts_L0 (y1:T15zx10×(List T15zx1)×Unit):Option ((T15zx10×(List T15zx1)×Unit) ⊕ (Nat×T15zx10×(List T15zx1)×Unit)) :=
 sel (leI (512:Int) (@len UInt8 y1.1.1))
 (sel (inside (0:Int) (512:Int) (@len UInt8 y1.1.1))
 (obind (P_ref12_Zero (@sub UInt8 y1.1.1 (0:Int) (minus (512:Int) (0:Int)),())) (fun (y2:Bool×Unit)=>sel y2.1
 (obind (P_ref13_zero (y1.1.1,())) (fun (y3:Bool×Unit)=>some (Sum.inr ((1:Nat),((y1.1.1,(y1.2.1,(y3.1,((),())))),(y1.2.1,()))):((T15zx10×(List T15zx1)×Unit)) ⊕ ((Nat×T15zx10×(List T15zx1)×Unit)))))
 (sel (inside (0:Int) (512:Int) (@len UInt8 y1.1.1))
 (obind (P_ref12_Take (@sub UInt8 y1.1.1 (0:Int) (minus (512:Int) (0:Int)),())) (fun (y3:T15zx5×Int×Unit)=>obind (sel (nt (sel (nt (nt (eqI y3.2.1 (0:Int))))
 (ltI (8192:Int) y3.1.2.2.2.2.2.1)
 true))
 (obind (P_ref13_whole (y3.1.2.2.2.2.2.1,())) (fun (y4:Int×Unit)=>some (ltI (@len UInt8 y1.1.1) (iadd IntKind.i64 (512:Int) y4.1))))
 (some true)) (fun (y4:Bool)=>sel (sel (nt y4)
 (leI (64:Int) (@len T15zx1 y1.2.1))
 true)
 (some (Sum.inr ((1:Nat),((y1.1.1,(y1.2.1,(false,((),())))),(y1.2.1,()))):((T15zx10×(List T15zx1)×Unit)) ⊕ ((Nat×T15zx10×(List T15zx1)×Unit))))
 (sel (inside (512:Int) (iadd IntKind.i64 (512:Int) y3.1.2.2.2.2.2.1) (@len UInt8 y1.1.1))
 (sel (fits (plus (@len T15zx1 y1.2.1) (@len T15zx1 ([(y3.1,(@sub UInt8 y1.1.1 (512:Int) (minus (iadd IntKind.i64 (512:Int) y3.1.2.2.2.2.2.1) (512:Int)),()))]:List T15zx1))))
 (obind (P_ref13_whole (y3.1.2.2.2.2.2.1,())) (fun (y5:Int×Unit)=>sel (inside (iadd IntKind.i64 (512:Int) y5.1) (@len UInt8 y1.1.1) (@len UInt8 y1.1.1))
 (some (Sum.inl ((@sub UInt8 y1.1.1 (iadd IntKind.i64 (512:Int) y5.1) (minus (@len UInt8 y1.1.1) (iadd IntKind.i64 (512:Int) y5.1)),(y1.1.2.1,(y1.1.2.2.1,((),())))),(@app T15zx1 y1.2.1 ([(y3.1,(@sub UInt8 y1.1.1 (512:Int) (minus (iadd IntKind.i64 (512:Int) y3.1.2.2.2.2.2.1) (512:Int)),()))]:List T15zx1),())):((T15zx10×(List T15zx1)×Unit)) ⊕ ((Nat×T15zx10×(List T15zx1)×Unit))))
 none))
 none)
 none))))
 none)))
 none)
 (some (Sum.inr ((0:Nat),((y1.1.1,(y1.1.2.1,(y1.1.2.2.1,((),())))),(y1.2.1,()))):((T15zx10×(List T15zx1)×Unit)) ⊕ ((Nat×T15zx10×(List T15zx1)×Unit))))

noncomputable def P_ref13_Parts (x:Sb×Unit):Option ((List T15zx1)×Bool×Unit) :=
 sel (ltI (8192:Int) (@len UInt8 x.1))
 (some (([]:List T15zx1),(false,())))
 (obind (Loop (P_ref13_Parts_L0) ((x.1,(([]:List T15zx1),(false,((),())))),(([]:List T15zx1),()))) (fun (y1:Nat×T15zx10×(List T15zx1)×Unit)=>sel (eqN y1.1 (0:Nat))
 (some (y1.2.2.1,(false,())))
 (some (y1.2.1.2.1,(y1.2.1.2.2.1,())))))

noncomputable def P_ref13_Read (x:Sb×Unit):Option ((List T15zx1)×Int×Unit) :=
 obind (P_ref13_Parts (x.1,())) (fun (y1:(List T15zx1)×Bool×Unit)=>sel (nt y1.2.1)
 (some (([]:List T15zx1),((10:Int),())))
 (some (y1.1,((0:Int),()))))

noncomputable def P_ref15_Check (x:Sb×Unit):Option (Int×Unit) :=
 obind (P_ref13_Read (x.1,())) (fun (y1:(List T15zx1)×Int×Unit)=>obind (sel (nt (nt (eqI y1.2.1 (0:Int))))
 (obind (P_ref15_Clean (y1.1,())) (fun (y2:Bool×Unit)=>some (nt y2.1)))
 (some true)) (fun (y2:Bool)=>sel y2
 (some ((10:Int),()))
 (some ((0:Int),()))))

noncomputable def P_ref15_Apply (x:(List T15zx0)×Sb×Unit):Option T15zx9 :=
 obind (P_ref14_Is (x.1,())) (fun (y1:Bool×Unit)=>sel (nt y1.1)
 (some (([]:List T15zx0),((1:Int),())))
 (obind (P_ref15_Check (x.2.1,())) (fun (y2:Int×Unit)=>sel (nt (eqI y2.1 (0:Int)))
 (some (([]:List T15zx0),(y2.1,())))
 (obind (P_ref13_Read (x.2.1,())) (fun (y3:(List T15zx1)×Int×Unit)=>obind (P_ref15_Lay (x.1,(y3.1,()))) (fun (y4:(List T15zx0)×Int×Unit)=>some (y4.1,(y4.2.1,()))))))))

noncomputable def P_law15_OverlayApplies (x:(List T15zx0)×Sb×Unit):Option (Bool×Unit) :=
 obind (P_ref14_Few (x.1,((66:Int),()))) (fun (y1:Bool×Unit)=>sel (sel (nt (nt y1.1))
 (ltI (8704:Int) (@len UInt8 x.2.1))
 true)
 (obind (P_law15_awake ()) (fun (y2:Bool×Unit)=>some (y2.1,())))
 (obind (P_overlay_Apply (x.1,(x.2.1,()))) (fun (y2:(List T15zx0)×Int×Unit)=>obind (P_ref15_Apply (x.1,(x.2.1,()))) (fun (y3:(List T15zx0)×Int×Unit)=>obind (P_ref14_Same (y2.1,(y3.1,()))) (fun (y4:Bool×Unit)=>obind (sel (sel y4.1
 (eqI y2.2.1 y3.2.1)
 false)
 (obind (P_overlay_Check (x.2.1,())) (fun (y5:Int×Unit)=>obind (P_ref15_Check (x.2.1,())) (fun (y6:Int×Unit)=>some (eqI y5.1 y6.1))))
 (some false)) (fun (y5:Bool)=>obind (sel y5
 (obind (P_law15_awake ()) (fun (y6:Bool×Unit)=>some y6.1))
 (some false)) (fun (y6:Bool)=>some (y6,()))))))))

end Go.Ge

/- What the functions of layer 14 compute, as plain programs (written by a program from what the ghost interpreter comes to). -/
namespace Go.Ge
set_option linter.unusedVariables false
set_option maxRecDepth 100000

end Go.Ge

/- Plain laws of loops that look for something in a list. -/
namespace Go.Ge
set_option linter.unusedVariables false
set_option linter.unusedSimpArgs false

theorem first_or {α:Type} (l:List α) (p:Nat→α→Bool) :
    (∃ i x,l[i]? = some x∧p i x=true∧∀ j y,j < i→l[j]? = some y→p j y=false)∨∀ i x,l[i]? = some x→p i x=false:=by
  by_cases h:∃ i x,l[i]? = some x∧p i x=true
  · left
    have key:∀ n i x,i≤n→l[i]? = some x→p i x=true→∃ i x,l[i]? = some x∧p i x=true∧∀ j y,j < i→l[j]? = some y→p j y=false:=by
      intro n
      induction n with
      | zero =>
        intro i x hi hx hp
        obtain rfl:i=0:=by omega
        exact ⟨0,x,hx,hp,fun j y hj=>by omega⟩
      | succ n ih =>
        intro i x hi hx hp
        by_cases k:∃ j y,j < i∧l[j]? = some y∧p j y=true
        · obtain ⟨j,y,hj,hy,hq⟩:=k
          exact ih j y (by omega) hy hq
        · refine ⟨i,x,hx,hp,fun j y hj hy=>?_⟩
          cases hq:p j y with
          | false=>rfl
          | true=>exact absurd ⟨j,y,hj,hy,hq⟩ k
    obtain ⟨i,x,hx,hp⟩:=h
    exact key i i x (Nat.le_refl _) hx hp
  · right
    intro i x hx
    cases hq:p i x with
    | false=>rfl
    | true=>exact absurd ⟨i,x,hx,hq⟩ h

theorem srch {α S R:Type} {f:S→Option (S ⊕ R)} (l:List α) (mk:Int→S) (p:Nat→α→Bool) (hitS:Nat→α→R) (finS:R) (hl:l.length≤4294967296)
  (hstep:∀ i x,l[i]? = some x→i < l.length→iadd .i64 (i:Int) 1=((i + 1:Nat):Int)→f (mk (i:Int))=some (if p i x=true then .inr (hitS i x) else .inl (mk ((i + 1:Nat):Int))))
  (hfin:f (mk (l.length:Int))=some (.inr finS)) :
  (∃ i x,l[i]? = some x∧p i x=true∧(∀ j y,j < i→l[j]? = some y→p j y=false)∧Loop f (mk 0)=some (hitS i x))∨((∀ i x,l[i]? = some x→p i x=false)∧Loop f (mk 0)=some finS):=by
 have adv:∀ i x,l[i]? = some x→p i x=false→f (mk (i:Int))=some (.inl (mk ((i + 1:Nat):Int))):=fun i x hx hp=>by
  have hi:=getElem?_lt hx
  rw [hstep i x hx hi (iadd_one (by omega)),hp];rfl
 rcases first_or l p with ⟨i,x,hx,hp,hj⟩ | hn
 ·left
  refine ⟨i,x,hx,hp,hj,?_⟩
  have hi:=getElem?_lt hx
  refine loop_seq i (fun j:Nat=>mk (j:Int)) (fun j hji=>?_) ?_
  ·have hjl:j < l.length:=by omega
   exact adv j l[j] (List.getElem?_eq_getElem hjl) (hj j _ hji (List.getElem?_eq_getElem hjl))
  ·rw [hstep i x hx hi (iadd_one (by omega)),hp];rfl
 ·right
  refine ⟨hn,loop_seq l.length (fun j:Nat=>mk (j:Int)) (fun j hj=>?_) hfin⟩
  exact adv j l[j] (List.getElem?_eq_getElem hj) (hn j _ (List.getElem?_eq_getElem hj))

theorem srchTo {α S R:Type} {f:S→Option (S ⊕ R)} (l:List α) (n:Nat) (mk:Int→S) (p:Nat→α→Bool) (hitS:Nat→α→R) (finS:Nat→R) (hl:min n l.length≤4294967296)
  (hstep:∀ i x,l[i]? = some x→i < l.length→i < n→iadd .i64 (i:Int) 1=((i + 1:Nat):Int)→f (mk (i:Int))=some (if p i x=true then .inr (hitS i x) else .inl (mk ((i + 1:Nat):Int))))
  (hfin:f (mk ((min n l.length:Nat):Int))=some (.inr (finS (min n l.length)))) :
  (∃ i x,i < n∧l[i]? = some x∧p i x=true∧(∀ j y,j < i→l[j]? = some y→p j y=false)∧Loop f (mk 0)=some (hitS i x))∨((∀ i x,i < n→l[i]? = some x→p i x=false)∧Loop f (mk 0)=some (finS (min n l.length))):=by
 have ht:∀ i x,(l.take n)[i]? = some x ↔ (i < n∧l[i]? = some x):=fun i x=>by
  rw [List.getElem?_take]
  by_cases h:i < n
  ·simp [h]
  ·simp [h]
 have hlen:(l.take n).length=min n l.length:=List.length_take
 rcases srch (f:=f) (l.take n) mk p hitS (finS (min n l.length)) (by rw [hlen];exact hl) (fun i x hx hi hadd=>by
   obtain ⟨h1,h2⟩:=(ht i x).1 hx
   exact hstep i x h2 (getElem?_lt h2) h1 hadd) (by rw [hlen];exact hfin) with ⟨i,x,hx,hp,hj,h⟩ | ⟨hn,h⟩
 ·obtain ⟨h1,h2⟩:=(ht i x).1 hx
  exact .inl ⟨i,x,h1,h2,hp,fun j y hji hy=>hj j y hji ((ht j y).2 ⟨by omega,hy⟩),h⟩
 ·exact .inr ⟨fun i x hi hx=>hn i x ((ht i x).2 ⟨hi,hx⟩),h⟩

theorem fold_loop {α σ S R:Type} {f:S→Option (S ⊕ R)} (l:List α) (mk:σ→Int→S) (step:σ→Nat→α→σ) (fin:σ→R) (Inv:σ→Nat→Prop) (hl:l.length≤4294967296)
    (hstep:∀ s i x,l[i]? = some x→i < l.length→iadd .i64 (i:Int) 1=((i + 1:Nat):Int)→Inv s i→f (mk s (i:Int))=some (.inl (mk (step s i x) ((i + 1:Nat):Int)))∧Inv (step s i x) (i + 1))
    (hfin:∀ s,Inv s l.length→f (mk s (l.length:Int))=some (.inr (fin s))) (s:σ) (h0:Inv s 0):∃ t,Inv t l.length∧Loop f (mk s 0)=some (fin t)∧t=(l.zipIdx).foldl (fun a p=>step a p.2 p.1) s:=by
  have key:∀ (rest pre:List α) (s:σ),l=pre ++ rest→Inv s pre.length→∃ t,Inv t l.length∧Loop f (mk s (pre.length:Int))=some (fin t)∧t=(rest.zipIdx pre.length).foldl (fun a p=>step a p.2 p.1) s:=by
    intro rest
    induction rest with
    | nil =>
      intro pre s hl2 hI
      rw [List.append_nil] at hl2
      subst hl2
      exact ⟨s,hI,by rw [Loop_eq,hfin s hI];rfl,rfl⟩
    | cons x r ih =>
      intro pre s hl2 hI
      have hx:l[pre.length]? = some x:=by rw [hl2];simp
      have hlt:=getElem?_lt hx
      obtain ⟨h1,h2⟩:=hstep s pre.length x hx hlt (iadd_one (by omega)) hI
      obtain ⟨t,t1,t2,t3⟩:=ih (pre ++ [x]) (step s pre.length x) (by rw [hl2];simp) (by rw [List.length_append];exact h2)
      rw [List.length_append] at t2 t3
      exact ⟨t,t1,by rw [Loop_eq,h1];exact t2,t3⟩
  exact key l [] s rfl h0

theorem fold_app {α β S R:Type} {f:S→Option (S ⊕ R)} (l:List α) (mk:List β→Int→S) (g:α→List β) (fin:R) (hl:l.length≤4294967296)
  (hstep:∀ i x,l[i]? = some x→i < l.length→iadd .i64 (i:Int) 1=((i + 1:Nat):Int)→f (mk ((l.take i).flatMap g) (i:Int))=some (.inl (mk ((l.take i).flatMap g ++ g x) ((i + 1:Nat):Int))))
  (hfin:f (mk (l.flatMap g) (l.length:Int))=some (.inr fin)):Loop f (mk [] 0)=some fin:=by
 refine loop_seq l.length (fun j:Nat=>mk ((l.take j).flatMap g) (j:Int)) (fun j hj=>?_) (by simp only [List.take_length];exact hfin)
 have hx:l[j]? = some l[j]:=List.getElem?_eq_getElem hj
 have:=hstep j l[j] hx hj (iadd_one (by omega))
 rw [this,List.take_add_one,hx,List.flatMap_append]
 simp
theorem fits_len {α:Type} {l:List α} (h:l.length≤4294967296):fits (len l)=true:=fits_nat' h
theorem mem_at {α:Type} {l:List α} {x:α}:x ∈ l ↔ ∃ i:Nat,l[i]? = some x:=by rw [List.mem_iff_getElem?]
end Go.Ge

/- Paths in plain words: their names, and what these are put together to. -/
namespace Go.Ge
set_option linter.unusedVariables false
set_option linter.unusedSimpArgs false

def splitS:List UInt8→List (List UInt8)
  | []=>[[]]
  | b :: r => if b = 47 then [] :: splitS r else match splitS r with
    | h :: t=>(b :: h) :: t
    | []=>[[b]]

theorem splitS_ne (s:List UInt8):splitS s ≠ []:=by
  cases s with
  | nil=>simp [splitS]
  | cons b r =>
    unfold splitS
    split
    · simp
    · split <;> simp

theorem splitS_cons {b:UInt8} (h:b ≠ 47) {r x:List UInt8} {t:List (List UInt8)} (e:splitS r=x :: t):splitS (b :: r)=(b :: x) :: t:=by
 rw [splitS,if_neg h,e]

def parts (p:List UInt8):List (List UInt8):=if p=[] then [] else splitS p

theorem splitK_cons {b:UInt8} (h:b ≠ 47):∀ (k:Nat) (r x:List UInt8) (t:List (List UInt8)),Lib.splitK [47] 0 k r=x :: t→Lib.splitK [47] 0 k (b :: r)=(b :: x) :: t:=by
  intro k r x t e
  cases k with
  | zero=>simp [Lib.splitK] at e ⊢;exact ⟨by rw [e.1],e.2⟩
  | succ k =>
    have hix:Lib.index (b :: r) [47]=if Lib.index r [47] == -1 then -1 else Lib.index r [47] + 1:=by
      rw [Lib.index]
      have:([47]:List UInt8).isPrefixOf (b :: r)=false:=by simp [List.isPrefixOf,Ne.symm h]
      rw [this];simp
    have hge:=Lib.index_ge r [47]
    unfold Lib.splitK at e ⊢
    rw [hix]
    by_cases hm:(Lib.index r [47] == -1)=true
    · rw [if_pos hm] at e ⊢
      simp at e ⊢
      exact ⟨e.1,e.2⟩
    · rw [if_neg hm] at e ⊢
      have hm':Lib.index r [47] ≠ -1:=fun q=>hm (by rw [q];rfl)
      have hn:¬ ((Lib.index r [47] + 1 == -1)=true):=fun q=>by have:=beq_iff_eq.1 q;omega
      rw [if_neg hn]
      obtain ⟨j,hj⟩:∃ j:Nat,Lib.index r [47]=j:=⟨(Lib.index r [47]).toNat,by omega⟩
      have e1:(Lib.index r [47] + 1).toNat=j + 1:=by omega
      have e2:(Lib.index r [47]).toNat=j:=by omega
      rw [e1]
      rw [e2] at e
      have:=List.cons.inj e
      rw [show j + 1 + ([47]:List UInt8).length=(j + ([47]:List UInt8).length) + 1 by omega,List.drop_succ_cons,this.2]
      have e3:=this.1
      simp at e3 ⊢
      exact e3

theorem splitK_slash (k:Nat) (r:List UInt8):Lib.splitK [47] 0 (k + 1) (47 :: r)=[] :: Lib.splitK [47] 0 k r:=by
 have hix:Lib.index (47 :: r) [47]=0:=by rw [Lib.index];simp [List.isPrefixOf]
 rw [Lib.splitK,hix]
 simp

theorem splitK_eq:∀ (s:List UInt8) (k:Nat),s.count 47≤k→Lib.splitK [47] 0 k s=splitS s:=by
  intro s
  induction s with
  | nil =>
    intro k _
    cases k with
    | zero=>rfl
    | succ k=>simp [Lib.splitK,splitS,Lib.index]
  | cons b r ih =>
    intro k hk
    by_cases h:b=47
    · subst h
      obtain ⟨k',rfl⟩:∃ k',k=k' + 1:=⟨k - 1,by rw [List.count_cons_self] at hk;omega⟩
      rw [splitK_slash,ih k' (by rw [List.count_cons_self] at hk;omega),splitS,if_pos rfl]
    · have:=ih k (by rwa [List.count_cons_of_ne h] at hk)
      cases hs:splitS r with
      | nil=>exact absurd hs (splitS_ne r)
      | cons x t =>
        rw [hs] at this
        rw [splitK_cons h k r x t this,splitS_cons h hs]

theorem split_eq (s:List UInt8):Lib.split s [47]=splitS s:=by
 unfold Lib.split
 exact splitK_eq s _ (by rw [Lib.count_one];exact Nat.le_refl _)

theorem u8_47 (c:UInt8):eqI (u8 c) 47=decide (c=47):=u8_eq (n:=47)
theorem u8_0 (c:UInt8):eqI (u8 c) 0=decide (c=0):=u8_eq (n:=0)

theorem parts_val (p:List UInt8) (hp:p.length≤1048576):P_paths_Parts (p,())=some (parts p,()):=by
 unfold P_paths_Parts parts
 dsimp only
 by_cases h:p=[]
 ·rw [eqS_true h,sel_true,if_pos h]
 ·rw [eqS_false h,sel_false,if_neg h]
  have:P_strings_Split (p,([47],()))=some (splitS p,()):=by
   show (S_split p [47]).map (fun y=>(y,()))=_
   unfold S_split
   simp only
   rw [if_pos (by omega),split_eq]
   rfl
  rw [this,obind_some]

theorem refParts_val (p:List UInt8) (hp:p.length≤1048576):P_ref07_Parts (p,())=some (parts p,()):=by
  unfold P_ref07_Parts parts
  dsimp only
  by_cases h:p=[]
  · rw [eqS_true h,sel_true,if_pos h]
  · rw [eqS_false h, sel_false, if_neg h]
    have key:=loop_run (f:=P_ref07_Parts_L0 (p,())) p (fun (s:List UInt8×List (List UInt8)) i=>(((),(s.1,((i:Int),()))),(s.2,())))
      (fun i s x=>some (.inl (if x=47 then ([],s.2 ++ [s.1]) else (s.1 ++ [x],s.2)))) (fun i s=>(((),(s.1,((i:Int),()))),(s.2,()))) (fun i s=>s.1.length≤i∧s.2.length≤i)
      (fun s i x hx hi hI=>by
        unfold P_ref07_Parts_L0
        dsimp only
        rw [ltI_len_true hi,sel_true,idx_some' hx,obind_some,u8_47]
        by_cases hq:x=47
        · rw [decide_eq_true hq,sel_true,fits_len2 (by simp only [List.length_cons,List.length_nil];omega),sel_true,obind_some,iadd_one (by omega)]
          simp only [if_pos hq]
          rfl
        · rw [decide_eq_false hq,sel_false,iadd_one (by omega),inside_len (by omega) (by omega),sel_true,sub_one hx,fits_len2 (by simp only [List.length_cons,List.length_nil];omega),sel_true,obind_some]
          simp only [if_neg hq]
          rfl)
      (fun s i x s' hx hI hs=>by
        obtain rfl:=Sum.inl.inj (Option.some.inj hs)
        by_cases hq:x=47
        · simp only [if_pos hq,List.length_append,List.length_cons,List.length_nil];omega
        · simp only [if_neg hq,List.length_append,List.length_cons,List.length_nil];omega)
      (fun s hI=>by
        unfold P_ref07_Parts_L0
        dsimp only
        rw [ltI_len_end,sel_false]
        rfl)
      (fun s i x _ _ h=>by cases h) ([],[]) ⟨Nat.le_refl _,Nat.le_refl _⟩
    have run:∀ (r:List UInt8) (i:Nat) (a:List UInt8) (o:List (List UInt8)),∃ a' o' j,runL (fun i (s:List UInt8×List (List UInt8)) x=>some (.inl (if x=47 then ([],s.2 ++ [s.1]) else (s.1 ++ [x],s.2)))) (fun i (s:List UInt8×List (List UInt8))=>(((),(s.1,((i:Int),()))),(s.2,()))) r i (a,o)=some (((),(a',(j,()))),(o',())) ∧
        o' ++ [a']=o ++ (match splitS r with | h :: t=>(a ++ h) :: t | []=>[a])∧o'.length≤o.length + r.length:=by
      intro r
      induction r with
      | nil=>intro i a o;exact ⟨a,o,_,rfl,by simp [splitS],by simp⟩
      | cons x r ih =>
        intro i a o
        by_cases hq:x=47
        · obtain ⟨a',o',j,h1,h2,h3⟩:=ih (i + 1) [] (o ++ [a])
          refine ⟨a',o',j,?_,?_,?_⟩
          · unfold runL
            simp only [if_pos hq]
            exact h1
          · rw [h2,splitS,if_pos hq]
            cases hs:splitS r with
            | nil=>exact absurd hs (splitS_ne r)
            | cons h t=>simp
          · simp only [List.length_append,List.length_cons,List.length_nil] at h3 ⊢;omega
        · obtain ⟨a',o',j,h1,h2,h3⟩:=ih (i + 1) (a ++ [x]) o
          refine ⟨a',o',j,?_,?_,?_⟩
          · unfold runL
            simp only [if_neg hq]
            exact h1
          · rw [h2]
            cases hs:splitS r with
            | nil=>exact absurd hs (splitS_ne r)
            | cons h t=>rw [splitS_cons hq hs];simp
          · simp only [List.length_cons] at h3 ⊢;omega
    obtain ⟨a',o',j,h1,h2,h3⟩:=run p 0 [] []
    have key':Loop (P_ref07_Parts_L0 (p,())) (((),(([]:List UInt8),((0:Int),()))),(([]:List (List UInt8)),()))=some (((),(a',(j,()))),(o',())):=key.trans h1
    rw [key',obind_some]
    dsimp only
    simp only [List.length_nil] at h3
    rw [fits_len2 (by simp only [List.length_cons,List.length_nil];omega),sel_true,app_eq,h2]
    cases hs:splitS p with
    | nil=>exact absurd hs (splitS_ne p)
    | cons h t=>simp

/-! ### Put together -/
def joinS:List (List UInt8)→List UInt8
 | []=>[]
 | [x]=>x
 | x :: y :: r=>x ++ 47 :: joinS (y :: r)

theorem lib_join (l:List (List UInt8)):Lib.join l [47]=joinS l:=by
  induction l with
  | nil=>rfl
  | cons x r ih =>
    cases r with
    | nil=>simp [Lib.join_one,joinS]
    | cons y r =>
      rw [joinS,← ih,Lib.join_cons,Lib.join_cons]
      simp [Lib.joinTail]

theorem joinS_splitS (s:List UInt8):joinS (splitS s)=s:=by
  induction s with
  | nil=>rfl
  | cons b r ih =>
    by_cases h:b=47
    · subst h
      rw [splitS,if_pos rfl]
      cases hs:splitS r with
      | nil=>exact absurd hs (splitS_ne r)
      | cons x t=>rw [joinS,← hs,ih];rfl
    · cases hs:splitS r with
      | nil=>exact absurd hs (splitS_ne r)
      | cons x t =>
        rw [splitS_cons h hs]
        rw [hs] at ih
        cases t with
        | nil=>rw [joinS] at ih ⊢;rw [ih]
        | cons y t=>rw [joinS] at ih ⊢;rw [List.cons_append,ih]

theorem joinS_parts (p:List UInt8):joinS (parts p)=p:=by
 unfold parts
 by_cases h:p=[]
 ·rw [if_pos h,h];rfl
 ·rw [if_neg h,joinS_splitS]

theorem splitS_app (x:List UInt8) (hx:47 ∉ x) (r:List UInt8):splitS (x ++ 47 :: r)=x :: splitS r:=by
  induction x with
  | nil=>rw [List.nil_append,splitS,if_pos rfl]
  | cons b x ih =>
    simp only [List.mem_cons,not_or] at hx
    exact splitS_cons (fun e=>hx.1 e.symm) (ih hx.2)
theorem splitS_plain (x:List UInt8) (hx:47 ∉ x):splitS x=[x]:=by
  induction x with
  | nil=>rfl
  | cons b x ih =>
    simp only [List.mem_cons,not_or] at hx
    exact splitS_cons (fun e=>hx.1 e.symm) (ih hx.2)

theorem splitS_joinS (l:List (List UInt8)) (hne:l ≠ []) (h:∀ x ∈ l,47 ∉ x):splitS (joinS l)=l:=by
  induction l with
  | nil=>exact absurd rfl hne
  | cons x r ih =>
    cases r with
    | nil=>rw [joinS];exact splitS_plain x (h x (List.mem_cons_self ..))
    | cons y r =>
      rw [joinS,splitS_app x (h x (List.mem_cons_self ..)),ih (by simp) (fun z hz=>h z (List.mem_cons_of_mem _ hz))]

theorem splitS_mem (s:List UInt8):∀ x ∈ splitS s,47 ∉ x∧x.length≤s.length:=by
  induction s with
  | nil=>intro x hx;simp [splitS] at hx;subst hx;simp
  | cons b r ih =>
    intro x hx
    by_cases h:b=47
    · rw [splitS,if_pos h] at hx
      rcases List.mem_cons.1 hx with rfl | hx
      · simp
      · obtain ⟨h1,h2⟩:=ih x hx
        exact ⟨h1,by simp only [List.length_cons];omega⟩
    · cases hs:splitS r with
      | nil=>exact absurd hs (splitS_ne r)
      | cons y t =>
        rw [splitS_cons h hs] at hx
        rw [hs] at ih
        rcases List.mem_cons.1 hx with rfl | hx
        · obtain ⟨h1,h2⟩:=ih y (List.mem_cons_self ..)
          exact ⟨by simp only [List.mem_cons,not_or];exact ⟨fun e=>h e.symm,h1⟩,by simp only [List.length_cons];omega⟩
        · obtain ⟨h1,h2⟩:=ih x (List.mem_cons_of_mem _ hx)
          exact ⟨h1,by simp only [List.length_cons];omega⟩

theorem length_splitS (s:List UInt8):(splitS s).length≤s.length + 1:=by
  induction s with
  | nil=>simp [splitS]
  | cons b r ih =>
    by_cases h:b=47
    · rw [splitS,if_pos h];simp only [List.length_cons];omega
    · cases hs:splitS r with
      | nil=>exact absurd hs (splitS_ne r)
      | cons y t=>rw [splitS_cons h hs];rw [hs] at ih;simp only [List.length_cons] at ih ⊢;omega

theorem parts_mem (p:List UInt8):∀ x ∈ parts p,47 ∉ x∧x.length≤p.length:=by
 unfold parts
 by_cases h:p=[]
 ·rw [if_pos h];intro x hx;cases hx
 ·rw [if_neg h];exact splitS_mem p
theorem length_parts (p:List UInt8):(parts p).length≤p.length + 1:=by
 unfold parts
 by_cases h:p=[]
 ·rw [if_pos h];simp
 ·rw [if_neg h];exact length_splitS p
theorem parts_joinS (l:List (List UInt8)) (h:∀ x ∈ l,47 ∉ x∧x ≠ []):parts (joinS l)=l:=by
  unfold parts
  cases l with
  | nil=>rfl
  | cons x r =>
    have hne:joinS (x :: r) ≠ []:=by
      have:=(h x (List.mem_cons_self ..)).2
      cases r with
      | nil=>rw [joinS];exact this
      | cons y r=>rw [joinS];simp
    rw [if_neg hne,splitS_joinS _ (by simp) (fun z hz=>(h z hz).1)]
end Go.Ge
