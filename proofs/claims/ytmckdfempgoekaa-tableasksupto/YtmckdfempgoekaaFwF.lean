/- Machinery of this seat's proofs (MALL, LS, LS2, LK, LS3, LS4, LKO, LKP, LKR, LA, LB, LC, LQ, LTT, LKQ, RfT, SeatQ, Ar): lemmas that the last text uses; no statement of its own. -/
import Derived.Test.YtmckdfempgoekaaFwE
import Derived.Test.YtmckdfempgoekaaProg
section
set_option linter.unusedVariables false
set_option linter.unusedSimpArgs false
set_option linter.unusedSectionVars false
namespace Go.Fw
set_option linter.unusedVariables false
def eR_ii64_ii64 (r:Int×Int):AV:=.tup [(.p (.int .i64 r.1)),(.p (.int .i64 r.2))]
def eR_sKey_ii64 (r:List GKey×Int):AV:=.tup [(.sl (List.map GKey.enc r.1) false),(.p (.int .i64 r.2))]
def law10_long (x0:List GProp):Bool:=
 (((decide (((mLen GProp.enc x0):Int) > 200))&&(decide (((mLen GProp.enc x0):Int)<1020)))||(decide (((mLen GProp.enc x0):Int) > 1100)))
def law10_twin (x0:List GProp):List GProp:=
 let v1:List GProp:=x0++[(GProp.mk (GKey.mk [55,55] 0) (GDesc.mk 0 (GVal.mk 0 0 [] 0) (GVal.mk 0 0 [] 0) (GVal.mk 0 0 [] 0) false false false))]
 v1
def key_Check (x0:GKey):Int:=
 bif (((decide ((x0.Sym:Int)<0))||(decide (((sLen x0.Str):Int) > 4096)))||((decide ((x0.Sym:Int) > 0))&&(sNe x0.Str []))) then 9
 else 0
def table_whole (x0:GDesc):Bool:=
 let v1:GDesc×Int:=desc_Complete x0
 ((iEq v1.2 0)&&(iEq v1.1.Has x0.Has))
def table_Check_l1 (x0:List GProp):Nat→Int→Int→(List (GKey×Int))→(Bool×Int×List (GKey×Int)×Int×List (GKey×Int))
 |0,_,_,_=>default
 |n+1,u1,u2,u3=>
  let v4:GProp:=x0.getD (u2:Int).toNat default
  let v5:Int:=key_Check v4.Key
  let v6:Bool:=table_whole v4.Desc
  let v7:Bool×Int:=mapGet 0 v4.Key u3
  let v8:List (GKey×Int):=mapPut v4.Key (iAdd .i64 u2 1) u3
  bif (!(decide ((u2:Int)<(mLen GProp.enc x0)))) then (true,u1,u3,default,default)
  else bif (iNe v5 0) then (false,default,default,v5,u3)
  else bif (!v6) then (false,default,default,90,u3)
  else bif (decide ((v7.2:Int) > 0)) then (false,default,default,100,u3)
  else table_Check_l1 x0 n u1 (iAdd .i64 u2 1) v8
def table_Check (x0:List GProp):Int:=
 let r1:Bool×Int×List (GKey×Int)×Int×List (GKey×Int):=table_Check_l1 x0 (x0.length+1) 0 0 []
 bif (decide (((mLen GProp.enc x0):Int) > 1024)) then 4
 else bif (!(iEq (selB r1.1) 0)) then r1.2.2.2.1
 else 0
def table_asked (x0:List GProp)(x1:GKey):Int:=
 let v2:Int:=table_Check x0
 let v3:Int:=key_Check x1
 bif (iNe v2 0) then v2
 else v3
def table_at_l2 (x0:List GProp)(x1:GKey):Nat→Int→Int→(Bool×Int×Int)
 |0,_,_=>default
 |n+1,u2,u3=>
  let v4:GProp:=x0.getD (u3:Int).toNat default
  bif (!(decide ((u3:Int)<(mLen GProp.enc x0)))) then (true,u2,default)
  else bif ((sEq v4.Key.Str x1.Str)&&(iEq v4.Key.Sym x1.Sym)) then (false,default,u3)
  else table_at_l2 x0 x1 n u2 (iAdd .i64 u3 1)
def table_at (x0:List GProp)(x1:GKey):Int:=
 let r2:Bool×Int×Int:=table_at_l2 x0 x1 (x0.length+1) 0 0
 bif (!(iEq (selB r2.1) 0)) then r2.2.2
 else (-1)
def ref08_Check (x0:GKey):Int:=
 bif (((decide ((x0.Sym:Int)<0))||(decide (((sLen x0.Str):Int) > 4096)))||((decide ((x0.Sym:Int) > 0))&&(decide (((sLen x0.Str):Int) > 0)))) then 9
 else 0
def ref10_Place_l2 (x0:List GProp)(x1:GKey):Nat→Int→Int→(Bool×Int×Int)
 |0,_,_=>default
 |n+1,u2,u3=>
  let v4:GProp:=x0.getD (u3:Int).toNat default
  bif (!(decide ((u3:Int)<(mLen GProp.enc x0)))) then (true,u2,default)
  else bif ((sEq v4.Key.Str x1.Str)&&(iEq v4.Key.Sym x1.Sym)) then (false,default,u3)
  else ref10_Place_l2 x0 x1 n u2 (iAdd .i64 u3 1)
def ref10_Place (x0:List GProp)(x1:GKey):Int:=
 let r2:Bool×Int×Int:=ref10_Place_l2 x0 x1 (x0.length+1) 0 0
 bif (!(iEq (selB r2.1) 0)) then r2.2.2
 else (-1)
def ref10_Check_l1 (x0:List GProp):Nat→Int→Int→(Bool×Int×Int)
 |0,_,_=>default
 |n+1,u1,u2=>
  let v3:GProp:=x0.getD (u2:Int).toNat default
  let v4:Int:=ref08_Check v3.Key
  let v5:GProp:=x0.getD (u2:Int).toNat default
  let v6:Bool:=ref09_IsWhole v5.Desc
  let v7:List GProp:=(x0.drop ((0:Int).toNat)).take ((u2:Int).toNat-(0:Int).toNat)
  let v8:GProp:=x0.getD (u2:Int).toNat default
  let v9:Int:=ref10_Place v7 v8.Key
  bif (!(decide ((u2:Int)<(mLen GProp.enc x0)))) then (true,u1,default)
  else bif (iNe v4 0) then (false,default,9)
  else bif (!v6) then (false,default,90)
  else bif (decide ((v9:Int)≥0)) then (false,default,100)
  else ref10_Check_l1 x0 n u1 (iAdd .i64 u2 1)
def ref10_Check (x0:List GProp):Int:=
 let r1:Bool×Int×Int:=ref10_Check_l1 x0 (x0.length+1) 0 0
 bif (decide (((mLen GProp.enc x0):Int) > 1024)) then 4
 else bif (!(iEq (selB r1.1) 0)) then r1.2.2
 else 0
def ref10_asked (x0:List GProp)(x1:GKey):Int:=
 let v2:Int:=ref10_Check x0
 let v3:Int:=ref08_Check x1
 bif (iNe v2 0) then v2
 else v3
def ref10_Same_l2 (x0:List GProp)(x1:List GProp):Nat→Bool→Int→(Bool×Bool×Bool)
 |0,_,_=>default
 |n+1,u2,u3=>
  let v4:GProp:=x0.getD (u3:Int).toNat default
  let v5:GProp:=x1.getD (u3:Int).toNat default
  let v6:GProp:=x0.getD (u3:Int).toNat default
  let v7:GProp:=x1.getD (u3:Int).toNat default
  let v8:Bool:=ref09_Alike v6.Desc v7.Desc
  bif (!(decide ((u3:Int)<(mLen GProp.enc x0)))) then (true,u2,default)
  else bif ((!((sEq v4.Key.Str v5.Key.Str)&&(iEq v4.Key.Sym v5.Key.Sym)))||(!v8)) then (false,default,false)
  else ref10_Same_l2 x0 x1 n u2 (iAdd .i64 u3 1)
def ref10_Same (x0:List GProp)(x1:List GProp):Bool:=
 let r2:Bool×Bool×Bool:=ref10_Same_l2 x0 x1 (x0.length+1) false 0
 bif (iNe (mLen GProp.enc x0) (mLen GProp.enc x1)) then false
 else bif (!(iEq (selB r2.1) 0)) then r2.2.2
 else true
def law10_stays (x0:List GProp)(x1:List GProp):Bool:=
 let v2:List GProp:=(x0.drop ((0:Int).toNat)).take (((mLen GProp.enc x1):Int).toNat-(0:Int).toNat)
 let v3:Bool:=ref10_Same v2 x1
 let v4:GProp:=x0.getD ((mLen GProp.enc x1):Int).toNat default
 let v5:GProp:=x0.getD ((mLen GProp.enc x1):Int).toNat default
 ((v3&&((sEq v4.Key.Str [55,55])&&(iEq v4.Key.Sym 0)))&&((iEq v5.Desc.Has 0)&&(((iEq v5.Desc.Value.Kind 0)&&((fEq v5.Desc.Value.Num 0)&&((sEq v5.Desc.Value.Str [])&&(iEq v5.Desc.Value.Ref 0))))&&(((iEq v5.Desc.Get.Kind 0)&&((fEq v5.Desc.Get.Num 0)&&((sEq v5.Desc.Get.Str [])&&(iEq v5.Desc.Get.Ref 0))))&&(((iEq v5.Desc.Set.Kind 0)&&((fEq v5.Desc.Set.Num 0)&&((sEq v5.Desc.Set.Str [])&&(iEq v5.Desc.Set.Ref 0))))&&((!v5.Desc.Writable)&&((!v5.Desc.Enumerable)&&(!v5.Desc.Configurable))))))))
def key_Index_l1 (x0:GKey):Nat→Int→Bool→Int→Int→(Bool×Int×Bool×Int×Int×Bool)
 |0,_,_,_,_=>default
 |n+1,u1,u2,u3,u4=>
  bif (!(decide ((u4:Int)<(sLen x0.Str)))) then (true,u1,u2,u3,default,default)
  else bif ((decide (((((x0.Str.getD (u4:Int).toNat 0).toNat:Nat):Int):Int)<48))||(decide (((((x0.Str.getD (u4:Int).toNat 0).toNat:Nat):Int):Int) > 57))) then (false,default,default,default,0,false)
  else key_Index_l1 x0 n u1 u2 (iAdd .i64 (iMul .i64 u3 10) (IntKind.wrap .i64 (iSub .u8 (((x0.Str.getD (u4:Int).toNat 0).toNat:Nat):Int) 48))) (iAdd .i64 u4 1)
def key_Index (x0:GKey):Int×Bool:=
 let r1:Bool×Int×Bool×Int×Int×Bool:=key_Index_l1 x0 (((sLen x0.Str):Int).toNat+1) 0 false 0 0
 bif ((((decide ((x0.Sym:Int) > 0))||(sEq x0.Str []))||(decide (((sLen x0.Str):Int) > 4)))||((decide (((sLen x0.Str):Int) > 1))&&(iEq (((x0.Str.getD (0:Int).toNat 0).toNat:Nat):Int) 48))) then (0,false)
 else bif (!(iEq (selB r1.1) 0)) then (r1.2.2.2.2.1,r1.2.2.2.2.2)
 else bif (decide ((r1.2.2.2.1:Int)≥1024)) then (0,false)
 else (r1.2.2.2.1,true)
def key_place (x0:GKey):Int×Int:=
 let v1:Int×Bool:=key_Index x0
 bif v1.2 then (0,v1.1)
 else bif (decide ((x0.Sym:Int) > 0)) then (2,0)
 else (1,0)
def sort_insertionSort_func_w3_2_l5 (x1:Int):Nat→Int→(List GKey)→(Int×List GKey)
 |0,u5,u6=>(u5,u6)
 |n+1,u5,u6=>
  let v7:GKey:=u6.getD (u5:Int).toNat default
  let v8:Int×Int:=key_place v7
  let v9:GKey:=u6.getD ((iSub .i64 u5 1):Int).toNat default
  let v10:Int×Int:=key_place v9
  let v11:GKey:=u6.getD (u5:Int).toNat default
  let v12:GKey:=u6.getD ((iSub .i64 u5 1):Int).toNat default
  let v13:List GKey:=u6.set (u5:Int).toNat v12
  let v14:List GKey:=v13.set ((iSub .i64 u5 1):Int).toNat v11
  bif ((decide ((u5:Int) > x1))&&(!((decide ((v8.1:Int)<v10.1))||((iEq v8.1 v10.1)&&(decide ((v8.2:Int)<v10.2)))))) then (u5,u6)
  else bif (!(decide ((u5:Int) > x1))) then (u5,u6)
  else sort_insertionSort_func_w3_2_l5 x1 n (iSub .i64 u5 1) v14
def sort_insertionSort_func_w3_2_l3 (x1:Int)(x2:Int):Nat→Int→(List GKey)→(List GKey)
 |0,_,u4=>u4
 |n+1,u3,u4=>
  let r5:Int×List GKey:=sort_insertionSort_func_w3_2_l5 x1 ((u3-x1).toNat+1) u3 u4
  bif (!(decide ((u3:Int)<x2))) then u4
  else sort_insertionSort_func_w3_2_l3 x1 x2 n (iAdd .i64 u3 1) r5.2
def sort_insertionSort_func_w3_2 (x0:List GKey)(x1:Int)(x2:Int):List GKey:=
 let r3:List GKey:=sort_insertionSort_func_w3_2_l3 x1 x2 ((x2:Int).toNat+1) (iAdd .i64 x1 1) x0
 r3
def sort_swapRange_func_w3_2_l4 (x1:Int)(x2:Int)(x3:Int):Nat→Int→(List GKey)→(List GKey)
 |0,_,u5=>u5
 |n+1,u4,u5=>
  let v6:GKey:=u5.getD ((iAdd .i64 x1 u4):Int).toNat default
  let v7:GKey:=u5.getD ((iAdd .i64 x2 u4):Int).toNat default
  let v8:List GKey:=u5.set ((iAdd .i64 x1 u4):Int).toNat v7
  let v9:List GKey:=v8.set ((iAdd .i64 x2 u4):Int).toNat v6
  bif (!(decide ((u4:Int)<x3))) then u5
  else sort_swapRange_func_w3_2_l4 x1 x2 x3 n (iAdd .i64 u4 1) v9
def sort_swapRange_func_w3_2 (x0:List GKey)(x1:Int)(x2:Int)(x3:Int):List GKey:=
 let r4:List GKey:=sort_swapRange_func_w3_2_l4 x1 x2 x3 ((x3:Int).toNat+1) 0 x0
 r4
def sort_rotate_func_w3_2_l4 (x2:Int):Nat→Int→Int→(List GKey)→(Int×List GKey)
 |0,u4,_,u6=>(u4,u6)
 |n+1,u4,u5,u6=>
  let w7:List GKey:=sort_swapRange_func_w3_2 u6 (iSub .i64 x2 u4) x2 u5
  let v7:List GKey:=w7
  let w9:List GKey:=sort_swapRange_func_w3_2 u6 (iSub .i64 x2 u4) (iSub .i64 (iAdd .i64 x2 u5) u4) u4
  let v9:List GKey:=w9
  bif (!(iNe u4 u5)) then (u4,u6)
  else bif (decide ((u4:Int) > u5)) then sort_rotate_func_w3_2_l4 x2 n (iSub .i64 u4 u5) u5 v7
  else sort_rotate_func_w3_2_l4 x2 n u4 (iSub .i64 u5 u4) v9
def sort_rotate_func_w3_2 (x0:List GKey)(x1:Int)(x2:Int)(x3:Int):List GKey:=
 let r4:Int×List GKey:=sort_rotate_func_w3_2_l4 x2 ((x3-x1).toNat+1) (iSub .i64 x2 x1) (iSub .i64 x3 x2) x0
 let w6:List GKey:=sort_swapRange_func_w3_2 r4.2 (iSub .i64 x2 r4.1) x2 r4.1
 let v6:List GKey:=w6
 v6
def sort_symMerge_func_w3_2_l4 (x0:List GKey)(x1:Int):Nat→Int→Int→Int
 |0,u4,_=>u4
 |n+1,u4,u5=>
  let v6:GKey:=x0.getD ((IntKind.wrap .i64 (iShr .u64 (IntKind.wrap .u64 (iAdd .i64 u4 u5)) 1)):Int).toNat default
  let v7:Int×Int:=key_place v6
  let v8:GKey:=x0.getD (x1:Int).toNat default
  let v9:Int×Int:=key_place v8
  bif (!(decide ((u4:Int)<u5))) then u4
  else sort_symMerge_func_w3_2_l4 x0 x1 n (bif ((decide ((v7.1:Int)<v9.1))||((iEq v7.1 v9.1)&&(decide ((v7.2:Int)<v9.2)))) then (iAdd .i64 (IntKind.wrap .i64 (iShr .u64 (IntKind.wrap .u64 (iAdd .i64 u4 u5)) 1)) 1) else u4) (bif ((decide ((v7.1:Int)<v9.1))||((iEq v7.1 v9.1)&&(decide ((v7.2:Int)<v9.2)))) then u5 else (IntKind.wrap .i64 (iShr .u64 (IntKind.wrap .u64 (iAdd .i64 u4 u5)) 1)))
def sort_symMerge_func_w3_2_l5 (r4:Int):Nat→Int→(List GKey)→(List GKey)
 |0,_,u6=>u6
 |n+1,u5,u6=>
  let v7:GKey:=u6.getD (u5:Int).toNat default
  let v8:GKey:=u6.getD ((iAdd .i64 u5 1):Int).toNat default
  let v9:List GKey:=u6.set (u5:Int).toNat v8
  let v10:List GKey:=v9.set ((iAdd .i64 u5 1):Int).toNat v7
  bif (!(decide ((u5:Int)<(iSub .i64 r4 1)))) then u6
  else sort_symMerge_func_w3_2_l5 r4 n (iAdd .i64 u5 1) v10
def sort_symMerge_func_w3_2_l6 (x0:List GKey)(x2:Int):Nat→Int→Int→Int
 |0,u6,_=>u6
 |n+1,u6,u7=>
  let v8:GKey:=x0.getD (x2:Int).toNat default
  let v9:Int×Int:=key_place v8
  let v10:GKey:=x0.getD ((IntKind.wrap .i64 (iShr .u64 (IntKind.wrap .u64 (iAdd .i64 u6 u7)) 1)):Int).toNat default
  let v11:Int×Int:=key_place v10
  bif (!(decide ((u6:Int)<u7))) then u6
  else sort_symMerge_func_w3_2_l6 x0 x2 n (bif ((decide ((v9.1:Int)<v11.1))||((iEq v9.1 v11.1)&&(decide ((v9.2:Int)<v11.2)))) then u6 else (iAdd .i64 (IntKind.wrap .i64 (iShr .u64 (IntKind.wrap .u64 (iAdd .i64 u6 u7)) 1)) 1)) (bif ((decide ((v9.1:Int)<v11.1))||((iEq v9.1 v11.1)&&(decide ((v9.2:Int)<v11.2)))) then (IntKind.wrap .i64 (iShr .u64 (IntKind.wrap .u64 (iAdd .i64 u6 u7)) 1)) else u7)
def sort_symMerge_func_w3_2_l7 (r6:Int):Nat→Int→(List GKey)→(List GKey)
 |0,_,u8=>u8
 |n+1,u7,u8=>
  let v9:GKey:=u8.getD (u7:Int).toNat default
  let v10:GKey:=u8.getD ((iSub .i64 u7 1):Int).toNat default
  let v11:List GKey:=u8.set (u7:Int).toNat v10
  let v12:List GKey:=v11.set ((iSub .i64 u7 1):Int).toNat v9
  bif (!(decide ((u7:Int) > r6))) then u8
  else sort_symMerge_func_w3_2_l7 r6 n (iSub .i64 u7 1) v12
def sort_symMerge_func_w3_2_l8 (x0:List GKey)(x1:Int)(x2:Int)(x3:Int):Nat→Int→Int→Int
 |0,u8,_=>u8
 |n+1,u8,u9=>
  let v10:GKey:=x0.getD ((iSub .i64 (iSub .i64 (iAdd .i64 (IntKind.wrap .i64 (iShr .u64 (IntKind.wrap .u64 (iAdd .i64 x1 x3)) 1)) x2) 1) (IntKind.wrap .i64 (iShr .u64 (IntKind.wrap .u64 (iAdd .i64 u8 u9)) 1))):Int).toNat default
  let v11:Int×Int:=key_place v10
  let v12:GKey:=x0.getD ((IntKind.wrap .i64 (iShr .u64 (IntKind.wrap .u64 (iAdd .i64 u8 u9)) 1)):Int).toNat default
  let v13:Int×Int:=key_place v12
  bif (!(decide ((u8:Int)<u9))) then u8
  else sort_symMerge_func_w3_2_l8 x0 x1 x2 x3 n (bif ((decide ((v11.1:Int)<v13.1))||((iEq v11.1 v13.1)&&(decide ((v11.2:Int)<v13.2)))) then u8 else (iAdd .i64 (IntKind.wrap .i64 (iShr .u64 (IntKind.wrap .u64 (iAdd .i64 u8 u9)) 1)) 1)) (bif ((decide ((v11.1:Int)<v13.1))||((iEq v11.1 v13.1)&&(decide ((v11.2:Int)<v13.2)))) then (IntKind.wrap .i64 (iShr .u64 (IntKind.wrap .u64 (iAdd .i64 u8 u9)) 1)) else u9)
def sort_symMerge_func_w3_2 : Nat→List GKey→Int→Int→Int→List GKey
 |0,x0,x1,x2,x3=>x0
 |n+1,x0,x1,x2,x3=>
 let r4:Int:=sort_symMerge_func_w3_2_l4 x0 x1 ((x3-x2).toNat+1) x2 x3
 let r5:List GKey:=sort_symMerge_func_w3_2_l5 r4 (((iSub .i64 r4 1):Int).toNat+1) x1 x0
 let r6:Int:=sort_symMerge_func_w3_2_l6 x0 x2 ((x2-x1).toNat+1) x1 x2
 let r7:List GKey:=sort_symMerge_func_w3_2_l7 r6 ((x2-x1).toNat+1) x2 x0
 let r8:Int:=sort_symMerge_func_w3_2_l8 x0 x1 x2 x3 ((x3-x1).toNat+1) (bif (decide ((x2:Int) > (IntKind.wrap .i64 (iShr .u64 (IntKind.wrap .u64 (iAdd .i64 x1 x3)) 1)))) then (iSub .i64 (iAdd .i64 (IntKind.wrap .i64 (iShr .u64 (IntKind.wrap .u64 (iAdd .i64 x1 x3)) 1)) x2) x3) else x1) (bif (decide ((x2:Int) > (IntKind.wrap .i64 (iShr .u64 (IntKind.wrap .u64 (iAdd .i64 x1 x3)) 1)))) then (IntKind.wrap .i64 (iShr .u64 (IntKind.wrap .u64 (iAdd .i64 x1 x3)) 1)) else x2)
 let w9:List GKey:=sort_rotate_func_w3_2 x0 r8 x2 (iSub .i64 (iAdd .i64 (IntKind.wrap .i64 (iShr .u64 (IntKind.wrap .u64 (iAdd .i64 x1 x3)) 1)) x2) r8)
 let v9:List GKey:=w9
 let w11:List GKey:=sort_symMerge_func_w3_2 n v9 x1 r8 (IntKind.wrap .i64 (iShr .u64 (IntKind.wrap .u64 (iAdd .i64 x1 x3)) 1))
 let v11:List GKey:=w11
 let w13:List GKey:=sort_symMerge_func_w3_2 n v11 (IntKind.wrap .i64 (iShr .u64 (IntKind.wrap .u64 (iAdd .i64 x1 x3)) 1)) (iSub .i64 (iAdd .i64 (IntKind.wrap .i64 (iShr .u64 (IntKind.wrap .u64 (iAdd .i64 x1 x3)) 1)) x2) r8) x3
 let v13:List GKey:=w13
 let w15:List GKey:=sort_symMerge_func_w3_2 n v9 (IntKind.wrap .i64 (iShr .u64 (IntKind.wrap .u64 (iAdd .i64 x1 x3)) 1)) (iSub .i64 (iAdd .i64 (IntKind.wrap .i64 (iShr .u64 (IntKind.wrap .u64 (iAdd .i64 x1 x3)) 1)) x2) r8) x3
 let v15:List GKey:=w15
 let w17:List GKey:=sort_symMerge_func_w3_2 n x0 x1 r8 (IntKind.wrap .i64 (iShr .u64 (IntKind.wrap .u64 (iAdd .i64 x1 x3)) 1))
 let v17:List GKey:=w17
 let w19:List GKey:=sort_symMerge_func_w3_2 n v17 (IntKind.wrap .i64 (iShr .u64 (IntKind.wrap .u64 (iAdd .i64 x1 x3)) 1)) (iSub .i64 (iAdd .i64 (IntKind.wrap .i64 (iShr .u64 (IntKind.wrap .u64 (iAdd .i64 x1 x3)) 1)) x2) r8) x3
 let v19:List GKey:=w19
 let w21:List GKey:=sort_symMerge_func_w3_2 n x0 (IntKind.wrap .i64 (iShr .u64 (IntKind.wrap .u64 (iAdd .i64 x1 x3)) 1)) (iSub .i64 (iAdd .i64 (IntKind.wrap .i64 (iShr .u64 (IntKind.wrap .u64 (iAdd .i64 x1 x3)) 1)) x2) r8) x3
 let v21:List GKey:=w21
 bif (iEq (iSub .i64 x2 x1) 1) then r5
 else bif (iEq (iSub .i64 x3 x2) 1) then r7
 else bif (((decide ((r8:Int)<x2))&&(decide ((x2:Int)<(iSub .i64 (iAdd .i64 (IntKind.wrap .i64 (iShr .u64 (IntKind.wrap .u64 (iAdd .i64 x1 x3)) 1)) x2) r8))))&&(((decide ((x1:Int)<r8))&&(decide ((r8:Int)<(IntKind.wrap .i64 (iShr .u64 (IntKind.wrap .u64 (iAdd .i64 x1 x3)) 1)))))&&((decide (((IntKind.wrap .i64 (iShr .u64 (IntKind.wrap .u64 (iAdd .i64 x1 x3)) 1)):Int)<(iSub .i64 (iAdd .i64 (IntKind.wrap .i64 (iShr .u64 (IntKind.wrap .u64 (iAdd .i64 x1 x3)) 1)) x2) r8)))&&(decide (((iSub .i64 (iAdd .i64 (IntKind.wrap .i64 (iShr .u64 (IntKind.wrap .u64 (iAdd .i64 x1 x3)) 1)) x2) r8):Int)<x3))))) then v13
 else bif (((decide ((r8:Int)<x2))&&(decide ((x2:Int)<(iSub .i64 (iAdd .i64 (IntKind.wrap .i64 (iShr .u64 (IntKind.wrap .u64 (iAdd .i64 x1 x3)) 1)) x2) r8))))&&((decide ((x1:Int)<r8))&&(decide ((r8:Int)<(IntKind.wrap .i64 (iShr .u64 (IntKind.wrap .u64 (iAdd .i64 x1 x3)) 1)))))) then v11
 else bif (((decide ((r8:Int)<x2))&&(decide ((x2:Int)<(iSub .i64 (iAdd .i64 (IntKind.wrap .i64 (iShr .u64 (IntKind.wrap .u64 (iAdd .i64 x1 x3)) 1)) x2) r8))))&&((decide (((IntKind.wrap .i64 (iShr .u64 (IntKind.wrap .u64 (iAdd .i64 x1 x3)) 1)):Int)<(iSub .i64 (iAdd .i64 (IntKind.wrap .i64 (iShr .u64 (IntKind.wrap .u64 (iAdd .i64 x1 x3)) 1)) x2) r8)))&&(decide (((iSub .i64 (iAdd .i64 (IntKind.wrap .i64 (iShr .u64 (IntKind.wrap .u64 (iAdd .i64 x1 x3)) 1)) x2) r8):Int)<x3)))) then v15
 else bif ((decide ((r8:Int)<x2))&&(decide ((x2:Int)<(iSub .i64 (iAdd .i64 (IntKind.wrap .i64 (iShr .u64 (IntKind.wrap .u64 (iAdd .i64 x1 x3)) 1)) x2) r8)))) then v9
 else bif (((decide ((x1:Int)<r8))&&(decide ((r8:Int)<(IntKind.wrap .i64 (iShr .u64 (IntKind.wrap .u64 (iAdd .i64 x1 x3)) 1)))))&&((decide (((IntKind.wrap .i64 (iShr .u64 (IntKind.wrap .u64 (iAdd .i64 x1 x3)) 1)):Int)<(iSub .i64 (iAdd .i64 (IntKind.wrap .i64 (iShr .u64 (IntKind.wrap .u64 (iAdd .i64 x1 x3)) 1)) x2) r8)))&&(decide (((iSub .i64 (iAdd .i64 (IntKind.wrap .i64 (iShr .u64 (IntKind.wrap .u64 (iAdd .i64 x1 x3)) 1)) x2) r8):Int)<x3)))) then v19
 else bif ((decide ((x1:Int)<r8))&&(decide ((r8:Int)<(IntKind.wrap .i64 (iShr .u64 (IntKind.wrap .u64 (iAdd .i64 x1 x3)) 1))))) then v17
 else bif ((decide (((IntKind.wrap .i64 (iShr .u64 (IntKind.wrap .u64 (iAdd .i64 x1 x3)) 1)):Int)<(iSub .i64 (iAdd .i64 (IntKind.wrap .i64 (iShr .u64 (IntKind.wrap .u64 (iAdd .i64 x1 x3)) 1)) x2) r8)))&&(decide (((iSub .i64 (iAdd .i64 (IntKind.wrap .i64 (iShr .u64 (IntKind.wrap .u64 (iAdd .i64 x1 x3)) 1)) x2) r8):Int)<x3))) then v21
 else x0
def sort_stable_func_w3_2_l2 (x1:Int):Nat→Int→Int→(List GKey)→(Int×Int×List GKey)
 |0,u2,u3,u4=>(u2,u3,u4)
 |n+1,u2,u3,u4=>
  let w5:List GKey:=sort_insertionSort_func_w3_2 u4 u2 u3
  let v5:List GKey:=w5
  bif (!(decide ((u3:Int)≤x1))) then (u2,u3,u4)
  else sort_stable_func_w3_2_l2 x1 n u3 (iAdd .i64 u3 20) v5
def sort_stable_func_w3_2_l11 (x1:Int)(u7:Int):Nat→Int→Int→(List GKey)→(Int×Int×List GKey)
 |0,u11,u12,u13=>(u11,u12,u13)
 |n+1,u11,u12,u13=>
  let w14:List GKey:=sort_symMerge_func_w3_2 ((u12-u11).toNat+1) u13 u11 (iAdd .i64 u11 u7) u12
  let v14:List GKey:=w14
  bif (!(decide ((u12:Int)≤x1))) then (u11,u12,u13)
  else sort_stable_func_w3_2_l11 x1 u7 n u12 (iAdd .i64 u12 (iMul .i64 2 u7)) v14
def sort_stable_func_w3_2_l7 (x1:Int):Nat→Int→Int→Int→(List GKey)→(List GKey)
 |0,_,_,_,u10=>u10
 |n+1,u7,u8,u9,u10=>
  let r11:Int×Int×List GKey:=sort_stable_func_w3_2_l11 x1 u7 ((x1+2*u7).toNat+1) 0 (iMul .i64 2 u7) u10
  let w14:List GKey:=sort_symMerge_func_w3_2 ((x1-r11.1).toNat+1) r11.2.2 r11.1 (iAdd .i64 r11.1 u7) x1
  let v14:List GKey:=w14
  bif (!(decide ((u7:Int)<x1))) then u10
  else bif (decide (((iAdd .i64 r11.1 u7):Int)<x1)) then sort_stable_func_w3_2_l7 x1 n (iMul .i64 u7 2) r11.1 r11.2.1 v14
  else sort_stable_func_w3_2_l7 x1 n (iMul .i64 u7 2) r11.1 r11.2.1 r11.2.2
def sort_stable_func_w3_2 (x0:List GKey)(x1:Int):List GKey:=
 let r2:Int×Int×List GKey:=sort_stable_func_w3_2_l2 x1 (x1.toNat+21) 0 20 x0
 let w5:List GKey:=sort_insertionSort_func_w3_2 r2.2.2 r2.1 x1
 let v5:List GKey:=w5
 let r7:List GKey:=sort_stable_func_w3_2_l7 x1 (x1.toNat+1) 20 r2.1 r2.2.1 v5
 r7
def key_Order (x0:List GKey):List GKey:=
 let w1:List GKey:=sort_stable_func_w3_2 x0 (mLen GKey.enc x0)
 let v1:List GKey:=w1
 let v3:List GKey:=(v1.drop (0)).take (((mLen GKey.enc x0):Int).toNat-0)
 bif ((iEq (mLen GKey.enc x0) 0)||(iEq (mLen GKey.enc x0) 1)) then x0
 else v3
def key_Order_o (x0:List GKey):List GKey:=
 let w1:List GKey:=sort_stable_func_w3_2 x0 (mLen GKey.enc x0)
 let v1:List GKey:=w1
 let v3:List GKey:=(v1.drop (0)).take (((mLen GKey.enc x0):Int).toNat-0)
 bif ((iEq (mLen GKey.enc x0) 0)||(iEq (mLen GKey.enc x0) 1)) then x0
 else v1
def ref01_Tens_l2 : Nat→Int→(List UInt8)→(Int×List UInt8)
 |0,_,_=>default
 |n+1,u2,u3=>
  bif (!(decide ((u2:Int)≥10))) then (u2,u3)
  else ref01_Tens_l2 n (iQuo .i64 u2 10) ((chrB (IntKind.wrap .i32 (iAdd .i64 48 (iRem .i64 u2 10))))++u3)
def ref01_Tens (x0:Int):List UInt8:=
 let v1:List UInt8:=default
 let r2:Int×List UInt8:=ref01_Tens_l2 (x0.toNat+1) x0 []
 bif (decide ((x0:Int)<0)) then ([45]++v1)
 else ((chrB (IntKind.wrap .i32 (iAdd .i64 48 r2.1)))++r2.2)
def ref07_Tens (x0:Int):List UInt8:=
 let v1:List UInt8:=default
 let v2:List UInt8:=default
 let v3:List UInt8:=ref01_Tens x0
 bif ((decide ((x0:Int)<0))&&(decide (((iSub .i64 0 x0):Int)<0))) then (v1++v2)
 else v3
def ref08_Index_l1 (x0:GKey):Nat→Int→Bool→Int→(Bool×Int×Bool×Int×Bool)
 |0,_,_,_=>default
 |n+1,u1,u2,u3=>
  let v4:List UInt8:=ref07_Tens u3
  bif (!(decide ((u3:Int)<1024))) then (true,u1,u2,default,default)
  else bif (sEq v4 x0.Str) then (false,default,default,u3,true)
  else ref08_Index_l1 x0 n u1 u2 (iAdd .i64 u3 1)
def ref08_Index (x0:GKey):Int×Bool:=
 let r1:Bool×Int×Bool×Int×Bool:=ref08_Index_l1 x0 ((1024:Int).toNat+1) 0 false 0
 bif ((decide ((x0.Sym:Int) > 0))||(decide (((sLen x0.Str):Int) > 4))) then (0,false)
 else bif (!(iEq (selB r1.1) 0)) then (r1.2.2.2.1,r1.2.2.2.2)
 else (0,false)
def ref08_Order_l6 (u2:List Int)(v5:Int×Bool):Nat→Int→Int
 |0,_=>default
 |n+1,u6=>
  let v7:Int:=u2.getD ((iSub .i64 u6 1):Int).toNat default
  bif (!((decide ((u6:Int) > 0))&&(decide ((v7:Int) > v5.1)))) then u6
  else ref08_Order_l6 u2 v5 n (iSub .i64 u6 1)
def ref08_Order_l9 (r6:Int):Nat→Int→(List GKey)→(List Int)→(Int×List GKey×List Int)
 |0,_,_,_=>default
 |n+1,u9,u10,u11=>
  let v12:GKey:=u10.getD ((iSub .i64 u9 1):Int).toNat default
  let v13:List GKey:=u10.set (u9:Int).toNat v12
  let v14:Int:=u11.getD ((iSub .i64 u9 1):Int).toNat default
  let v15:List Int:=u11.set (u9:Int).toNat v14
  bif (!(decide ((u9:Int) > r6))) then (u9,u10,u11)
  else ref08_Order_l9 r6 n (iSub .i64 u9 1) v13 v15
def ref08_Order_l1 (x0:List GKey):Nat→(List GKey)→(List Int)→Int→(List GKey)
 |0,_,_,_=>default
 |n+1,u1,u2,u3=>
  let v4:GKey:=x0.getD (u3:Int).toNat default
  let v5:Int×Bool:=ref08_Index v4
  let r6:Int:=ref08_Order_l6 u2 v5 (u1.length+1) (mLen GKey.enc u1)
  let v7:List GKey:=u1++[(GKey.mk [] 0)]
  let v8:List Int:=u2++[0]
  let r9:Int×List GKey×List Int:=ref08_Order_l9 r6 (u1.length+1) (iSub .i64 (mLen GKey.enc v7) 1) v7 v8
  let v12:GKey:=x0.getD (u3:Int).toNat default
  let v13:List GKey:=r9.2.1.set (r6:Int).toNat v12
  let v14:List Int:=r9.2.2.set (r6:Int).toNat v5.1
  bif (!(decide ((u3:Int)<(mLen GKey.enc x0)))) then u1
  else bif (!v5.2) then ref08_Order_l1 x0 n u1 u2 (iAdd .i64 u3 1)
  else ref08_Order_l1 x0 n v13 v14 (iAdd .i64 u3 1)
def ref08_Order_l2 (x0:List GKey):Nat→(List GKey)→Int→(List GKey)
 |0,_,_=>default
 |n+1,u2,u3=>
  let v4:GKey:=x0.getD (u3:Int).toNat default
  let v5:Int×Bool:=ref08_Index v4
  let v6:GKey:=x0.getD (u3:Int).toNat default
  let v7:GKey:=x0.getD (u3:Int).toNat default
  let v8:List GKey:=u2++[v7]
  bif (!(decide ((u3:Int)<(mLen GKey.enc x0)))) then u2
  else bif ((!v5.2)&&(decide ((v6.Sym:Int)≤0))) then ref08_Order_l2 x0 n v8 (iAdd .i64 u3 1)
  else ref08_Order_l2 x0 n u2 (iAdd .i64 u3 1)
def ref08_Order_l3 (x0:List GKey):Nat→(List GKey)→Int→(List GKey)
 |0,_,_=>default
 |n+1,u3,u4=>
  let v5:GKey:=x0.getD (u4:Int).toNat default
  let v6:GKey:=x0.getD (u4:Int).toNat default
  let v7:List GKey:=u3++[v6]
  bif (!(decide ((u4:Int)<(mLen GKey.enc x0)))) then u3
  else bif (decide ((v5.Sym:Int) > 0)) then ref08_Order_l3 x0 n v7 (iAdd .i64 u4 1)
  else ref08_Order_l3 x0 n u3 (iAdd .i64 u4 1)
def ref08_Order (x0:List GKey):List GKey:=
 let r1:List GKey:=ref08_Order_l1 x0 (x0.length+1) [] [] 0
 let r2:List GKey:=ref08_Order_l2 x0 (x0.length+1) r1 0
 let r3:List GKey:=ref08_Order_l3 x0 (x0.length+1) r2 0
 r3
def ref08_Same_l2 (x0:List GKey)(x1:List GKey):Nat→Bool→Int→(Bool×Bool×Bool)
 |0,_,_=>default
 |n+1,u2,u3=>
  let v4:GKey:=x0.getD (u3:Int).toNat default
  let v5:GKey:=x1.getD (u3:Int).toNat default
  bif (!(decide ((u3:Int)<(mLen GKey.enc x0)))) then (true,u2,default)
  else bif (!((sEq v4.Str v5.Str)&&(iEq v4.Sym v5.Sym))) then (false,default,false)
  else ref08_Same_l2 x0 x1 n u2 (iAdd .i64 u3 1)
def ref08_Same (x0:List GKey)(x1:List GKey):Bool:=
 let r2:Bool×Bool×Bool:=ref08_Same_l2 x0 x1 (x0.length+1) false 0
 bif (iNe (mLen GKey.enc x0) (mLen GKey.enc x1)) then false
 else bif (!(iEq (selB r2.1) 0)) then r2.2.2
 else true
def table_Find (x0:List GProp)(x1:GKey):GDesc×Bool×Int:=
 let v2:Int:=table_asked x0 x1
 let v3:Int:=table_at x0 x1
 let v4:GProp:=x0.getD (v3:Int).toNat default
 bif (iNe v2 0) then ((GDesc.mk 0 (GVal.mk 0 0 [] 0) (GVal.mk 0 0 [] 0) (GVal.mk 0 0 [] 0) false false false),false,v2)
 else bif (decide ((v3:Int)≥0)) then (v4.Desc,true,0)
 else ((GDesc.mk 0 (GVal.mk 0 0 [] 0) (GVal.mk 0 0 [] 0) (GVal.mk 0 0 [] 0) false false false),false,0)
def ref10_Find (x0:List GProp)(x1:GKey):GDesc×Bool×Int:=
 let v2:Int:=ref10_asked x0 x1
 let v3:Int:=ref10_Place x0 x1
 let v4:GProp:=x0.getD (v3:Int).toNat default
 bif (iNe v2 0) then ((GDesc.mk 0 (GVal.mk 0 0 [] 0) (GVal.mk 0 0 [] 0) (GVal.mk 0 0 [] 0) false false false),false,v2)
 else bif (decide ((v3:Int)<0)) then ((GDesc.mk 0 (GVal.mk 0 0 [] 0) (GVal.mk 0 0 [] 0) (GVal.mk 0 0 [] 0) false false false),false,0)
 else (v4.Desc,true,0)
def table_Keys_l2 (x0:List GProp):Nat→(List GKey)→Int→(List GKey)
 |0,_,_=>default
 |n+1,u2,u3=>
  let v4:GProp:=x0.getD (u3:Int).toNat default
  let v5:List GKey:=u2++[v4.Key]
  bif (!(decide ((u3:Int)<(mLen GProp.enc x0)))) then u2
  else table_Keys_l2 x0 n v5 (iAdd .i64 u3 1)
def table_Keys (x0:List GProp):List GKey×Int:=
 let v1:Int:=table_Check x0
 let r2:List GKey:=table_Keys_l2 x0 (x0.length+1) [] 0
 let v3:List GKey:=key_Order r2
 bif (iNe v1 0) then ([],v1)
 else (v3,0)
def ref10_Keys_l2 (x0:List GProp):Nat→(List GKey)→Int→(List GKey)
 |0,_,_=>default
 |n+1,u2,u3=>
  let v4:GProp:=x0.getD (u3:Int).toNat default
  let v5:List GKey:=u2++[v4.Key]
  bif (!(decide ((u3:Int)<(mLen GProp.enc x0)))) then u2
  else ref10_Keys_l2 x0 n v5 (iAdd .i64 u3 1)
def ref10_Keys (x0:List GProp):List GKey×Int:=
 let v1:Int:=ref10_Check x0
 let r2:List GKey:=ref10_Keys_l2 x0 (x0.length+1) [] 0
 let v3:List GKey:=ref08_Order r2
 bif (iNe v1 0) then ([],v1)
 else (v3,0)
def table_Names_l2 (x0:List GProp):Nat→(List GKey)→Int→(List GKey)
 |0,_,_=>default
 |n+1,u2,u3=>
  let v4:GProp:=x0.getD (u3:Int).toNat default
  let v5:List GKey:=u2++[v4.Key]
  bif (!(decide ((u3:Int)<(mLen GProp.enc x0)))) then u2
  else bif (v4.Desc.Enumerable&&(iEq v4.Key.Sym 0)) then table_Names_l2 x0 n v5 (iAdd .i64 u3 1)
  else table_Names_l2 x0 n u2 (iAdd .i64 u3 1)
def table_Names (x0:List GProp):List GKey×Int:=
 let v1:Int:=table_Check x0
 let r2:List GKey:=table_Names_l2 x0 (x0.length+1) [] 0
 let v3:List GKey:=key_Order r2
 bif (iNe v1 0) then ([],v1)
 else (v3,0)
def ref10_Names_l2 (x0:List GProp)(v1:List GKey×Int):Nat→(List GKey)→Int→(List GKey)
 |0,_,_=>default
 |n+1,u2,u3=>
  let v4:GKey:=v1.1.getD (u3:Int).toNat default
  let v5:GKey:=v1.1.getD (u3:Int).toNat default
  let v6:Int:=ref10_Place x0 v5
  let v7:GProp:=x0.getD (v6:Int).toNat default
  let v8:GKey:=v1.1.getD (u3:Int).toNat default
  let v9:List GKey:=u2++[v8]
  bif (!(decide ((u3:Int)<(mLen GKey.enc v1.1)))) then u2
  else bif ((iEq v4.Sym 0)&&v7.Desc.Enumerable) then ref10_Names_l2 x0 v1 n v9 (iAdd .i64 u3 1)
  else ref10_Names_l2 x0 v1 n u2 (iAdd .i64 u3 1)
def ref10_Names (x0:List GProp):List GKey×Int:=
 let v1:List GKey×Int:=ref10_Keys x0
 let r2:List GKey:=ref10_Names_l2 x0 v1 (v1.1.length+1) [] 0
 bif (iNe v1.2 0) then ([],v1.2)
 else (r2,0)
def table_Sealed_l2 (x0:List GProp):Nat→Bool→Int→Int→(Bool×Bool×Int×Bool×Int)
 |0,_,_,_=>default
 |n+1,u2,u3,u4=>
  let v5:GProp:=x0.getD (u4:Int).toNat default
  bif (!(decide ((u4:Int)<(mLen GProp.enc x0)))) then (true,u2,u3,default,default)
  else bif v5.Desc.Configurable then (false,default,default,false,0)
  else table_Sealed_l2 x0 n u2 u3 (iAdd .i64 u4 1)
def table_Sealed (x0:List GProp):Bool×Int:=
 let v1:Int:=table_Check x0
 let r2:Bool×Bool×Int×Bool×Int:=table_Sealed_l2 x0 (x0.length+1) false 0 0
 bif (iNe v1 0) then (false,v1)
 else bif (!(iEq (selB r2.1) 0)) then (r2.2.2.2.1,r2.2.2.2.2)
 else (true,0)
def ref10_Sealed_l2 (x0:List GProp):Nat→Bool→Int→Int→(Bool×Bool×Int×Bool×Int)
 |0,_,_,_=>default
 |n+1,u2,u3,u4=>
  let v5:GProp:=x0.getD (u4:Int).toNat default
  bif (!(decide ((u4:Int)<(mLen GProp.enc x0)))) then (true,u2,u3,default,default)
  else bif v5.Desc.Configurable then (false,default,default,false,0)
  else ref10_Sealed_l2 x0 n u2 u3 (iAdd .i64 u4 1)
def ref10_Sealed (x0:List GProp):Bool×Int:=
 let v1:Int:=ref10_Check x0
 let r2:Bool×Bool×Int×Bool×Int:=ref10_Sealed_l2 x0 (x0.length+1) false 0 0
 bif (iNe v1 0) then (false,v1)
 else bif (!(iEq (selB r2.1) 0)) then (r2.2.2.2.1,r2.2.2.2.2)
 else (true,0)
def table_Frozen_l2 (x0:List GProp):Nat→Bool→Int→Bool
 |0,_,_=>default
 |n+1,u2,u3=>
  let v4:GProp:=x0.getD (u3:Int).toNat default
  bif (!(decide ((u3:Int)<(mLen GProp.enc x0)))) then u2
  else table_Frozen_l2 x0 n (u2&&(!v4.Desc.Writable)) (iAdd .i64 u3 1)
def table_Frozen (x0:List GProp):Bool×Int:=
 let v1:Bool×Int:=table_Sealed x0
 let r2:Bool:=table_Frozen_l2 x0 (x0.length+1) v1.1 0
 (r2,v1.2)
def ref10_Frozen_l2 (x0:List GProp)(v1:Bool×Int):Nat→Bool→Int→Bool
 |0,_,_=>default
 |n+1,u2,u3=>
  let v4:GProp:=x0.getD (u3:Int).toNat default
  let v5:Bool:=ref09_IsData v4.Desc
  let v6:GProp:=x0.getD (u3:Int).toNat default
  bif (!((decide ((u3:Int)<(mLen GProp.enc x0)))&&(iEq v1.2 0))) then u2
  else bif (v5&&v6.Desc.Writable) then ref10_Frozen_l2 x0 v1 n false (iAdd .i64 u3 1)
  else ref10_Frozen_l2 x0 v1 n u2 (iAdd .i64 u3 1)
def ref10_Frozen (x0:List GProp):Bool×Int:=
 let v1:Bool×Int:=ref10_Sealed x0
 let r2:Bool:=ref10_Frozen_l2 x0 v1 (x0.length+1) v1.1 0
 (r2,v1.2)
def law10_TableAsks (x0:List GProp)(x1:GKey):Bool:=
 let v2:Bool:=law10_long x0
 let v3:Int:=table_Check x0
 let v4:Int:=ref10_Check x0
 let v5:List GProp:=law10_twin x0
 let v6:List GProp:=(v5.drop ((0:Int).toNat)).take (((mLen GProp.enc x0):Int).toNat-(0:Int).toNat)
 let v7:GDesc×Bool×Int:=table_Find v6 x1
 let v8:GDesc×Bool×Int:=ref10_Find x0 x1
 let v9:List GKey×Int:=table_Keys v6
 let v10:List GKey×Int:=ref10_Keys x0
 let v11:List GKey×Int:=table_Names v6
 let v12:List GKey×Int:=ref10_Names x0
 let v13:Bool×Int:=table_Sealed v6
 let v14:Bool×Int:=ref10_Sealed x0
 let v15:Bool×Int:=table_Frozen v6
 let v16:Bool×Int:=ref10_Frozen x0
 let v17:Bool:=ref09_Alike v7.1 v8.1
 let v18:Bool:=ref08_Same v9.1 v10.1
 let v19:Bool:=ref08_Same v11.1 v12.1
 let v20:Int:=table_Check v6
 let v21:Int:=ref10_Check x0
 let v22:Bool:=law10_stays v5 x0
 bif (v2||(decide (((sLen x1.Str):Int) > 9000))) then true
 else bif (decide (((mLen GProp.enc x0):Int) > 1000)) then (iEq v3 v4)
 else (((((((((((((iEq v7.2.2 v8.2.2)&&(bEq v7.2.1 v8.2.1))&&v17)&&(iEq v9.2 v10.2))&&v18)&&(iEq v11.2 v12.2))&&v19)&&(iEq v13.2 v14.2))&&(bEq v13.1 v14.1))&&(iEq v15.2 v16.2))&&(bEq v15.1 v16.1))&&(iEq v20 v21))&&v22)
end Go.Fw
end
section
set_option linter.unusedVariables false
set_option linter.unusedSimpArgs false
set_option linter.unusedSectionVars false
namespace Go.Fw
set_option linter.unusedVariables false
set_option linter.unusedSimpArgs false
def ltK (a b:GKey):Bool:=(decide (((key_place a).1:Int)<(key_place b).1))||((iEq (key_place a).1 (key_place b).1)&&(decide (((key_place a).2:Int)<(key_place b).2)))
theorem ltK_iff {a b:GKey}:ltK a b=true↔(key_place a).1<(key_place b).1∨((key_place a).1=(key_place b).1∧(key_place a).2<(key_place b).2):=by
 simp [ltK,qiEq]
theorem ltK_f {a b:GKey}:ltK a b=false↔¬((key_place a).1<(key_place b).1∨((key_place a).1=(key_place b).1∧(key_place a).2<(key_place b).2)):=by
 rw [← ltK_iff];simp
def Srt (l:List GKey):Prop:=l.Pairwise fun a b=>ltK b a=false
def Eqp (l m:List GKey):Prop:=∀p:Int×Int,l.filter (fun k=>decide (key_place k=p))=m.filter (fun k=>decide (key_place k=p))
theorem Eqp.refl (l:List GKey):Eqp l l:=fun _=>rfl
theorem Eqp.symm {l m:List GKey}(h:Eqp l m):Eqp m l:=fun p=>(h p).symm
theorem Eqp.trans {l m n:List GKey}(h:Eqp l m)(k:Eqp m n):Eqp l n:=fun p=>(h p).trans (k p)
theorem Eqp.app {a b c d:List GKey}(h:Eqp a b)(k:Eqp c d):Eqp (a++c) (b++d):=fun p=>by rw [List.filter_append,List.filter_append,h p,k p]
theorem Eqp.swap {a b:List GKey}(h:∀x∈a,∀y∈b,ltK y x=true):Eqp (a++b) (b++a):=by
 intro p
 rw [List.filter_append,List.filter_append]
 by_cases ha:a.filter (fun k=>decide (key_place k=p))=[]
 ·rw [ha];simp
 ·by_cases hb:b.filter (fun k=>decide (key_place k=p))=[]
  ·rw [hb];simp
  ·obtain ⟨x,hx⟩:=List.exists_mem_of_ne_nil _ ha
   obtain ⟨y,hy⟩:=List.exists_mem_of_ne_nil _ hb
   rw [List.mem_filter] at hx hy
   have h1:=of_decide_eq_true hx.2
   have h2:=of_decide_eq_true hy.2
   have:=ltK_iff.1 (h x hx.1 y hy.1)
   rw [h1,h2] at this
   omega
theorem Eqp.len_mem {a b:List GKey}(h:Eqp a b):∀x,x∈a→x∈b:=by
 intro x hx
 have h1:x∈a.filter (fun k=>decide (key_place k=key_place x)):=List.mem_filter.2 ⟨hx,by simp⟩
 rw [h] at h1
 exact (List.mem_filter.1 h1).1
theorem le_trans' {a b c:GKey}(h:ltK b a=false)(k:ltK c b=false):ltK c a=false:=by
 rw [ltK_f] at *;omega
theorem lt_of_le_of_lt' {a b c:GKey}(h:ltK b a=false)(k:ltK b c=true):ltK a c=true:=by
 rw [ltK_f] at h;rw [ltK_iff] at *;omega
theorem lt_of_lt_of_le' {a b c:GKey}(h:ltK a b=true)(k:ltK c b=false):ltK a c=true:=by
 rw [ltK_f] at k;rw [ltK_iff] at *;omega
theorem le_of_lt' {a b:GKey}(h:ltK a b=true):ltK b a=false:=by
 rw [ltK_iff] at h;rw [ltK_f];omega
theorem Srt.uniq : ∀{a b:List GKey},Srt a→Srt b→Eqp a b→a=b
 |[],b,ha,hb,h=>by
  cases b with
  |nil=>rfl
  |cons y r=>have:=h.symm.len_mem y (by simp);cases this
 |x::r,b,ha,hb,h=>by
  cases b with
  |nil=>have:=h.len_mem x (by simp);cases this
  |cons y s=>
   obtain ⟨a1,a2⟩:=List.pairwise_cons.1 ha
   obtain ⟨b1,b2⟩:=List.pairwise_cons.1 hb
   have hxy:ltK y x=false:=by
    have:=h.symm.len_mem y (by simp)
    cases this with
    |head=>rw [ltK_f];omega
    |tail _ hm=>exact a1 y hm
   have hyx:ltK x y=false:=by
    have:=h.len_mem x (by simp)
    cases this with
    |head=>rw [ltK_f];omega
    |tail _ hm=>exact b1 x hm
   have hp:key_place x=key_place y:=by
    rw [ltK_f] at hxy hyx
    exact Prod.ext (by omega) (by omega)
   have he:=h (key_place x)
   simp only [List.filter_cons,hp,decide_true,if_true,List.cons.injEq] at he
   obtain ⟨rfl,he2⟩:=he
   have:Eqp r s:=by
    intro p
    have:=h p
    simp only [List.filter_cons] at this
    by_cases hq:key_place x=p
    ·simp only [hq,decide_true,if_true,List.cons.injEq,true_and] at this;exact this
    ·simp only [hq,decide_false,Bool.false_eq_true,if_false] at this;exact this
   rw [Srt.uniq a2 b2 this]
theorem at_mid {α:Type}[Inhabited α]{A B:List α}{x:α}{i:Int}(h:i=A.length):(A++x::B).getD i.toNat default=x:=by
 subst h;simp
theorem set_mid {α:Type}{A B:List α}{x y:α}{i:Int}(h:i=A.length):(A++x::B).set i.toNat y=A++y::B:=by
 subst h;simp
theorem swap2 {A M B:List GKey}{x y:GKey}{i j:Int}(hi:i=A.length)(hj:j=A.length+1+M.length) :
  ((A++x::(M++y::B)).set i.toNat y).set j.toNat x=A++y::(M++x::B):=by
 rw [set_mid hi,show A++y::(M++y::B)=(A++y::M)++y::B by simp,set_mid (by simp;omega)]
 simp
theorem swapRange_l4_ok {a b n:Int}:∀(k:Nat) (P Y1 X2 M X1 Y2 T:List GKey) (i:Int),a=P.length→i=Y1.length→Y1.length=X1.length→X2.length=Y2.length→b=a+i+X2.length+M.length→n=i+X2.length→X2.length<k→a+b+n<4294967296→
  sort_swapRange_func_w3_2_l4 a b n k i (P++Y1++X2++M++X1++Y2++T)=P++Y1++Y2++M++X1++X2++T
 |0,P,Y1,X2,M,X1,Y2,T,i,ha,hi,h1,h2,hb,hn,hk,hlim=>by omega
 |k+1,P,Y1,X2,M,X1,Y2,T,i,ha,hi,h1,h2,hb,hn,hk,hlim=>by
  simp only [sort_swapRange_func_w3_2_l4]
  cases X2 with
  |nil=>
   have:Y2=[]:=List.length_eq_zero_iff.1 (by simpa using h2.symm)
   subst this
   have hd:decide (i<n)=false:=decide_eq_false (by simp at hn;omega)
   simp [hd]
  |cons x X=>
   cases Y2 with
   |nil=>simp at h2
   |cons y Y=>
    simp only [List.length_cons] at *
    have hd:decide (i<n)=true:=decide_eq_true (by omega)
    have e1:iAdd .i64 a i=a+i:=iAddC (by omega) (by omega)
    have e2:iAdd .i64 b i=b+i:=iAddC (by omega) (by omega)
    have e3:iAdd .i64 i 1=i+1:=iAddC (by omega) (by omega)
    simp only [hd,Bool.not_true,cond_false,e1,e2,e3]
    have q1:P++Y1++x::X++M++X1++y::Y++T=(P++Y1)++x::((X++M++X1)++y::(Y++T)):=by simp
    have q2:P++Y1++x::X++M++X1++y::Y++T=((P++Y1)++x::(X++M++X1))++y::(Y++T):=by simp
    have g1:(P++Y1++x::X++M++X1++y::Y++T).getD (a+i).toNat default=x:=by rw [q1];exact at_mid (by simp;omega)
    have g2:(P++Y1++x::X++M++X1++y::Y++T).getD (b+i).toNat default=y:=by rw [q2];exact at_mid (by simp;omega)
    rw [g1,g2,q1,swap2 (by simp;omega) (by simp;omega)]
    have:=swapRange_l4_ok k P (Y1++[y]) X M (X1++[x]) Y T (i+1) ha (by simp;omega) (by simp;omega) (by omega) (by omega) (by omega) (by omega) hlim
    rw [show P++Y1++y::(X++M++X1++x::(Y++T))=P++(Y1++[y])++X++M++(X1++[x])++Y++T by simp,this]
    simp
theorem swapRange_ok {P X M Y T:List GKey}{a b n:Int}(ha:a=P.length)(hx:n=X.length)(hy:n=Y.length)(hb:b=a+n+M.length)(hlim:a+b+n<4294967296) :
  sort_swapRange_func_w3_2 (P++X++M++Y++T) a b n=P++Y++M++X++T:=by
 unfold sort_swapRange_func_w3_2
 have:=swapRange_l4_ok (a:=a) (b:=b) (n:=n) (n.toNat+1) P [] X M [] Y T 0 ha rfl rfl (by omega) (by omega) (by omega) (by omega) hlim
 simpa using this
theorem rotate_l4_ok {m:Int}:∀(k:Nat) (P A B T:List GKey) (i j:Int),m=P.length+A.length→i=A.length→j=B.length→0<A.length→0<B.length→A.length+B.length<k→4*(P.length+A.length+B.length)<4294967296→
  ∃P' A' B' T',(sort_rotate_func_w3_2_l4 m k i j (P++A++B++T)).2=P'++A'++B'++T'∧(sort_rotate_func_w3_2_l4 m k i j (P++A++B++T)).1=A'.length∧A'.length=B'.length∧m=P'.length+A'.length∧P'++B'++A'++T'=P++B++A++T∧0<A'.length∧A'.length≤A.length∧A'.length≤B.length
 |0,P,A,B,T,i,j,hm,hi,hj,hA,hB,hk,hlim=>by omega
 |k+1,P,A,B,T,i,j,hm,hi,hj,hA,hB,hk,hlim=>by
  simp only [sort_rotate_func_w3_2_l4]
  by_cases he:A.length=B.length
  ·have hd:iNe i j=false:=iNe_f.2 (by omega)
   simp only [hd,Bool.not_false,cond_true]
   exact ⟨P,A,B,T,rfl,hi,he,by omega,rfl,hA,Nat.le_refl _,by omega⟩
  ·have hd:iNe i j=true:=iNe_t.2 (by omega)
   simp only [hd,Bool.not_true,cond_false]
   have e1:iSub .i64 m i=m-i:=iSubC (by omega) (by omega)
   by_cases hg:i > j
   ·have hgd:decide (i > j)=true:=decide_eq_true hg
    have e2:iSub .i64 i j=i-j:=iSubC (by omega) (by omega)
    simp only [hgd,cond_true,e1,e2]
    have hA1:A=A.take B.length++A.drop B.length:=(List.take_append_drop _ _).symm
    generalize hX:A.take B.length=X at *
    generalize hA2:A.drop B.length=A2 at *
    have lX:X.length=B.length:=by rw [← hX];simp;omega
    have lA:A.length=X.length+A2.length:=by rw [hA1];simp
    have sw:sort_swapRange_func_w3_2 (P++A++B++T) (m-i) m j=P++B++A2++X++T:=by
     have:=swapRange_ok (P:=P) (X:=X) (M:=A2) (Y:=B) (T:=T) (a:=m-i) (b:=m) (n:=j) (by omega) (by omega) (by omega) (by omega) (by omega)
     rw [hA1,show P++(X++A2)++B++T=P++X++A2++B++T by simp];exact this
    rw [sw]
    obtain ⟨P',A',B',T',q1,q2,q3,q4,q5,q6,q7,q8⟩:=rotate_l4_ok (m:=m) k (P++B) A2 X T (i-j) j (by simp;omega) (by omega) (by omega) (by omega) (by omega) (by omega) (by simp;omega)
    refine ⟨P',A',B',T',q1,q2,q3,q4,?_,q6,by omega,by omega⟩
    rw [q5,hA1];simp
   ·have hgd:decide (i > j)=false:=decide_eq_false hg
    have e2:iSub .i64 j i=j-i:=iSubC (by omega) (by omega)
    have e3:iAdd .i64 m j=m+j:=iAddC (by omega) (by omega)
    have e4:iSub .i64 (m+j) i=m+j-i:=iSubC (by omega) (by omega)
    simp only [hgd,cond_false,e1,e2,e3,e4]
    have hB1:B=B.take (B.length-A.length)++B.drop (B.length-A.length):=(List.take_append_drop _ _).symm
    generalize hX:B.take (B.length-A.length)=B1 at *
    generalize hA2:B.drop (B.length-A.length)=B2 at *
    have lB1:B1.length=B.length-A.length:=by rw [← hX];simp
    have lB:B.length=B1.length+B2.length:=by rw [hB1];simp
    have sw:sort_swapRange_func_w3_2 (P++A++B++T) (m-i) (m+j-i) i=P++B2++B1++A++T:=by
     have:=swapRange_ok (P:=P) (X:=A) (M:=B1) (Y:=B2) (T:=T) (a:=m-i) (b:=m+j-i) (n:=i) (by omega) (by omega) (by omega) (by omega) (by omega)
     rw [hB1,show P++A++(B1++B2)++T=P++A++B1++B2++T by simp];exact this
    rw [sw]
    obtain ⟨P',A',B',T',q1,q2,q3,q4,q5,q6,q7,q8⟩:=rotate_l4_ok (m:=m) k P B2 B1 (A++T) i (j-i) (by omega) (by omega) (by omega) (by omega) (by omega) (by omega) (by omega)
    rw [show P++B2++B1++A++T=P++B2++B1++(A++T) by simp]
    refine ⟨P',A',B',T',q1,q2,q3,q4,?_,q6,by omega,by omega⟩
    rw [q5,hB1];simp
theorem rotate_ok {P A B T:List GKey}{a m b:Int}(ha:a=P.length)(hm:m=a+A.length)(hb:b=m+B.length)(hA:0<A.length)(hB:0<B.length)(hlim:4*(P.length+A.length+B.length)<4294967296) :
  sort_rotate_func_w3_2 (P++A++B++T) a m b=P++B++A++T:=by
 unfold sort_rotate_func_w3_2
 dsimp only
 have e1:iSub .i64 m a=m-a:=iSubC (by omega) (by omega)
 have e2:iSub .i64 b m=b-m:=iSubC (by omega) (by omega)
 rw [e1,e2]
 obtain ⟨P',A',B',T',q1,q2,q3,q4,q5,q6,q7,q8⟩:=rotate_l4_ok (m:=m) ((b-a).toNat+1) P A B T (m-a) (b-m) (by omega) (by omega) (by omega) hA hB (by omega) hlim
 rw [q1,q2]
 have e3:iSub .i64 m (A'.length:Int)=m-A'.length:=iSubC (by omega) (by omega)
 rw [e3]
 have lim:(P'.length:Int)+A'.length≤P.length+A.length:=by omega
 have:=swapRange_ok (P:=P') (X:=A') (M:=[]) (Y:=B') (T:=T') (a:=m-A'.length) (b:=m) (n:=A'.length) (by omega) rfl (by omega) (by simp) (by omega)
 simp only [List.append_nil] at this
 rw [this,q5]
end Go.Fw
end
section
set_option linter.unusedVariables false
set_option linter.unusedSimpArgs false
set_option linter.unusedSectionVars false
namespace Go.Fw
set_option linter.unusedVariables false
set_option linter.unusedSimpArgs false
theorem insertion_l5_ok {a:Int}:∀(k:Nat) (P S T:List GKey) (x:GKey) (j:Int),a=P.length→j=P.length+S.length→S.length<k→P.length+S.length<4294967296→Srt S→
  ∃S1 S2,S=S1++S2∧(∀y∈S1,ltK x y=false)∧(∀y∈S2,ltK x y=true)∧(sort_insertionSort_func_w3_2_l5 a k j (P++S++x::T)).2=P++S1++x::(S2++T)
 |0,P,S,T,x,j,ha,hj,hk,hlim,hs=>by omega
 |k+1,P,S,T,x,j,ha,hj,hk,hlim,hs=>by
  simp only [sort_insertionSort_func_w3_2_l5]
  rcases List.eq_nil_or_concat S with rfl|⟨S',y,rfl⟩
  ·have hd:decide (j > a)=false:=decide_eq_false (by simp at hj;omega)
   refine ⟨[],[],rfl,by simp,by simp,?_⟩
   simp [hd]
  ·simp only [List.concat_eq_append,List.length_append,List.length_cons,List.length_nil] at *
   have hd:decide (j > a)=true:=decide_eq_true (by omega)
   have e1:iSub .i64 j 1=j-1:=iSubC (by omega) (by omega)
   have g1:(P++(S'++[y])++x::T).getD j.toNat default=x:=at_mid (by simp;omega)
   have g2:(P++(S'++[y])++x::T).getD (j-1).toNat default=y:=by
    rw [show P++(S'++[y])++x::T=(P++S')++y::(x::T) by simp];exact at_mid (by simp;omega)
   have hs':Srt S':=(List.pairwise_append.1 hs).1
   have hsy:∀z∈S',ltK y z=false:=fun z hz=>(List.pairwise_append.1 hs).2.2 z hz y (by simp)
   simp only [hd,e1,g1,g2,Bool.true_and,Bool.not_true,cond_false]
   have hl:(decide (((key_place x).1:Int)<(key_place y).1)||iEq (key_place x).1 (key_place y).1&&decide (((key_place x).2:Int)<(key_place y).2))=ltK x y:=rfl
   rw [hl]
   cases hlt:ltK x y
   ·refine ⟨S'++[y],[],by simp,?_,by simp,by simp⟩
    intro z hz
    rcases List.mem_append.1 hz with hz|hz
    ·exact le_trans' (hsy z hz) hlt
    ·simp at hz;subst hz;exact hlt
   ·simp only [Bool.not_true,cond_false]
    have sw:(((P++(S'++[y])++x::T).set j.toNat y).set (j-1).toNat x)=P++S'++x::(y::T):=by
     rw [set_mid (by simp;omega),show P++(S'++[y])++y::T=(P++S')++y::(y::T) by simp,set_mid (by simp;omega)]
    rw [sw]
    obtain ⟨S1,S2,q1,q2,q3,q4⟩:=insertion_l5_ok k P S' (y::T) x (j-1) ha (by omega) (by omega) (by omega) hs'
    refine ⟨S1,S2++[y],by rw [q1];simp,q2,fun z hz=>?_,by rw [q4];simp⟩
    rcases List.mem_append.1 hz with hz|hz
    ·exact q3 z hz
    ·simp at hz;subst hz;exact hlt
theorem ins_srt {S1 S2:List GKey}{x:GKey}(hs:Srt (S1++S2))(h1:∀y∈S1,ltK x y=false)(h2:∀y∈S2,ltK x y=true):Srt (S1++x::S2):=by
 obtain ⟨a1,a2,a3⟩:=List.pairwise_append.1 hs
 refine List.pairwise_append.2 ⟨a1,List.pairwise_cons.2 ⟨fun y hy=>le_of_lt' (h2 y hy),a2⟩,fun y hy z hz=>?_⟩
 cases hz with
 |head=>exact h1 y hy
 |tail _ hz=>exact a3 y hy z hz
theorem ins_eqp {S1 S2:List GKey}{x:GKey}(h2:∀y∈S2,ltK x y=true):Eqp (S1++x::S2) (S1++S2++[x]):=by
 rw [List.append_assoc]
 refine Eqp.app (Eqp.refl _) (Eqp.symm (Eqp.swap (a:=S2) (b:=[x]) fun y hy z hz=>?_))
 simp at hz;subst hz;exact h2 y hy
theorem insertion_l3_ok {a b:Int}:∀(k:Nat) (P S R T:List GKey) (i:Int),a=P.length→i=P.length+S.length→b=i+R.length→R.length<k→P.length+S.length+R.length<4294967296→Srt S→
  ∃S',sort_insertionSort_func_w3_2_l3 a b k i (P++S++R++T)=P++S'++T∧Srt S'∧Eqp S' (S++R)
 |0,P,S,R,T,i,ha,hi,hb,hk,hlim,hs=>by omega
 |k+1,P,S,R,T,i,ha,hi,hb,hk,hlim,hs=>by
  simp only [sort_insertionSort_func_w3_2_l3]
  cases R with
  |nil=>
   have hd:decide (i<b)=false:=decide_eq_false (by simp at hb;omega)
   refine ⟨S,by simp [hd],hs,by simp;exact Eqp.refl _⟩
  |cons x R=>
   simp only [List.length_cons] at *
   have hd:decide (i<b)=true:=decide_eq_true (by omega)
   have e1:iAdd .i64 i 1=i+1:=iAddC (by omega) (by omega)
   simp only [hd,Bool.not_true,cond_false,e1]
   obtain ⟨S1,S2,q1,q2,q3,q4⟩:=insertion_l5_ok (a:=a) ((i-a).toNat+1) P S (R++T) x i ha hi (by omega) (by omega) hs
   rw [show P++S++x::R++T=P++S++x::(R++T) by simp,q4]
   have hs2:=ins_srt (q1▸hs) q2 q3
   obtain ⟨S',r1,r2,r3⟩:=insertion_l3_ok (a:=a) (b:=b) k P (S1++x::S2) R T (i+1) ha (by rw [q1] at hi;simp at hi ⊢;omega) (by omega) (by omega) (by rw [q1] at hlim;simp at hlim ⊢;omega) hs2
   refine ⟨S',by rw [← r1];simp,r2,r3.trans ?_⟩
   rw [show S++x::R=(S++[x])++R by simp,q1]
   exact Eqp.app (ins_eqp q3) (Eqp.refl _)
theorem insertion_ok {P M T:List GKey}{a b:Int}(ha:a=P.length)(hb:b=a+M.length)(hlim:P.length+M.length<4294967296) :
  ∃M',sort_insertionSort_func_w3_2 (P++M++T) a b=P++M'++T∧Srt M'∧Eqp M' M:=by
 unfold sort_insertionSort_func_w3_2
 dsimp only
 have e1:iAdd .i64 a 1=a+1:=iAddC (by omega) (by omega)
 rw [e1]
 cases M with
 |nil=>
  refine ⟨[],?_,List.Pairwise.nil,Eqp.refl _⟩
  simp only [List.length_nil] at hb
  simp only [sort_insertionSort_func_w3_2_l3]
  have hd:decide (a+1<b)=false:=decide_eq_false (by omega)
  simp [hd]
 |cons x M=>
  simp only [List.length_cons] at *
  obtain ⟨S',r1,r2,r3⟩:=insertion_l3_ok (a:=a) (b:=b) (b.toNat+1) P [x] M T (a+1) ha (by simp;omega) (by omega) (by omega) (by simp;omega) (List.pairwise_singleton _ _)
  exact ⟨S',by rw [← r1];simp,r2,by simpa using r3⟩
abbrev midT (a b:Int):Int:=IntKind.wrap .i64 (iShr .u64 (IntKind.wrap .u64 (iAdd .i64 a b)) 1)
theorem midT_eq {a b:Int}(h0:0≤a)(h1:0≤b)(h2:a+b<9223372036854775807):midT a b=(a+b) / 2:=by
 have e:iAdd .i64 a b=a+b:=iAddC (by omega) (by omega)
 show IntKind.wrap .i64 (iShr .u64 (IntKind.wrap .u64 (iAdd .i64 a b)) 1)=_
 rw [e,midC (by omega) (by omega)]
def bs (q:Int→Bool):Nat→Int→Int→Int
 |0,i,_=>i
 |n+1,i,j=>bif decide (i<j) then (bif q ((i+j) / 2) then bs q n ((i+j) / 2+1) j else bs q n i ((i+j) / 2)) else i
theorem bs_bd {q:Int→Bool}:∀(n:Nat) {i j:Int},i≤j→i≤bs q n i j∧bs q n i j≤j
 |0,i,j,h=>by simp [bs,h]
 |n+1,i,j,h=>by
  simp only [bs]
  by_cases hlt:i<j
  ·simp only [hlt,decide_true,cond_true]
   cases q ((i+j) / 2) with
   |true=>simp only [cond_true];have:=bs_bd (q:=q) n (i:=(i+j) / 2+1) (j:=j) (by omega);omega
   |false=>simp only [cond_false];have:=bs_bd (q:=q) n (i:=i) (j:=(i+j) / 2) (by omega);omega
  ·simp only [hlt,decide_false,cond_false];omega
theorem bs_ok {q:Int→Bool}:∀(n:Nat) {i j:Int},i≤j→(j-i).toNat<n→(∀c d,i≤c→c≤d→d<j→q d=true→q c=true)→
  (∀c,i≤c→c<bs q n i j→q c=true)∧(∀c,bs q n i j≤c→c<j→q c=false)
 |0,i,j,h,hn,hm=>by omega
 |n+1,i,j,h,hn,hm=>by
  simp only [bs]
  by_cases hlt:i<j
  ·simp only [hlt,decide_true,cond_true]
   cases hq:q ((i+j) / 2) with
   |true=>
    simp only [cond_true]
    obtain ⟨h1,h2⟩:=bs_ok (q:=q) n (i:=(i+j) / 2+1) (j:=j) (by omega) (by omega) (fun c d a b e=>hm c d (by omega) b e)
    refine ⟨fun c hc hl=>?_,h2⟩
    by_cases h3:c≤(i+j) / 2
    ·exact hm c _ hc h3 (by omega) hq
    ·exact h1 c (by omega) hl
   |false=>
    simp only [cond_false]
    obtain ⟨h1,h2⟩:=bs_ok (q:=q) n (i:=i) (j:=(i+j) / 2) (by omega) (by omega) (fun c d a b e=>hm c d a b (by omega))
    refine ⟨h1,fun c hc hl=>?_⟩
    by_cases h3:c<(i+j) / 2
    ·exact h2 c hc h3
    ·cases hqc:q c with
     |false=>rfl
     |true=>rw [hm _ c (by omega) (by omega) hl hqc] at hq;cases hq
  ·simp only [hlt,decide_false,cond_false]
   exact ⟨fun c h1 h2=>by omega,fun c h1 h2=>by omega⟩
abbrev gt (l:List GKey)(i:Int):GKey:=l.getD i.toNat default
theorem l4_bs {x0:List GKey}{a:Int}:∀(n:Nat) {i j:Int},0≤i→i≤j→j≤4294967296→sort_symMerge_func_w3_2_l4 x0 a n i j=bs (fun c=>ltK (gt x0 c) (gt x0 a)) n i j
 |0,i,j,_,_,_=>rfl
 |n+1,i,j,h0,h1,h2=>by
  simp only [sort_symMerge_func_w3_2_l4,bs]
  rw [show IntKind.wrap .i64 (iShr .u64 (IntKind.wrap .u64 (iAdd .i64 i j)) 1)=(i+j) / 2 from midT_eq h0 (by omega) (by omega)]
  have e:iAdd .i64 ((i+j) / 2) 1=(i+j) / 2+1:=iAddC (by omega) (by omega)
  rw [e]
  by_cases hlt:i<j
  ·simp only [hlt,decide_true,Bool.not_true,cond_false,cond_true]
   show sort_symMerge_func_w3_2_l4 x0 a n (bif ltK (gt x0 ((i+j) / 2)) (gt x0 a) then _ else _) (bif ltK (gt x0 ((i+j) / 2)) (gt x0 a) then _ else _)=_
   cases ltK (gt x0 ((i+j) / 2)) (gt x0 a) with
   |true=>simp only [cond_true];exact l4_bs n (by omega) (by omega) h2
   |false=>simp only [cond_false];exact l4_bs n h0 (by omega) (by omega)
  ·simp only [hlt,decide_false,Bool.not_false,cond_true,cond_false]
theorem l6_bs {x0:List GKey}{m:Int}:∀(n:Nat) {i j:Int},0≤i→i≤j→j≤4294967296→sort_symMerge_func_w3_2_l6 x0 m n i j=bs (fun c=>!ltK (gt x0 m) (gt x0 c)) n i j
 |0,i,j,_,_,_=>rfl
 |n+1,i,j,h0,h1,h2=>by
  simp only [sort_symMerge_func_w3_2_l6,bs]
  rw [show IntKind.wrap .i64 (iShr .u64 (IntKind.wrap .u64 (iAdd .i64 i j)) 1)=(i+j) / 2 from midT_eq h0 (by omega) (by omega)]
  have e:iAdd .i64 ((i+j) / 2) 1=(i+j) / 2+1:=iAddC (by omega) (by omega)
  rw [e]
  by_cases hlt:i<j
  ·simp only [hlt,decide_true,Bool.not_true,cond_false,cond_true]
   show sort_symMerge_func_w3_2_l6 x0 m n (bif ltK (gt x0 m) (gt x0 ((i+j) / 2)) then _ else _) (bif ltK (gt x0 m) (gt x0 ((i+j) / 2)) then _ else _)=_
   cases ltK (gt x0 m) (gt x0 ((i+j) / 2)) with
   |true=>simp only [cond_true,Bool.not_true,cond_false];exact l6_bs n h0 (by omega) (by omega)
   |false=>simp only [cond_false,Bool.not_false,cond_true];exact l6_bs n (by omega) (by omega) h2
  ·simp only [hlt,decide_false,Bool.not_false,cond_true,cond_false]
theorem l8_bs {x0:List GKey}{a m b:Int}(ha:0≤a)(hab:a≤b)(hb:b≤4294967296)(hm0:0≤m)(hm1:m≤b):∀(n:Nat) {i j:Int},0≤i→i≤j→j≤4294967296→
  sort_symMerge_func_w3_2_l8 x0 a m b n i j=bs (fun c=>!ltK (gt x0 ((a+b) / 2+m-1-c)) (gt x0 c)) n i j
 |0,i,j,_,_,_=>rfl
 |n+1,i,j,h0,h1,h2=>by
  simp only [sort_symMerge_func_w3_2_l8,bs]
  rw [show IntKind.wrap .i64 (iShr .u64 (IntKind.wrap .u64 (iAdd .i64 i j)) 1)=(i+j) / 2 from midT_eq h0 (by omega) (by omega),
   show IntKind.wrap .i64 (iShr .u64 (IntKind.wrap .u64 (iAdd .i64 a b)) 1)=(a+b) / 2 from midT_eq ha (by omega) (by omega)]
  have e:iAdd .i64 ((i+j) / 2) 1=(i+j) / 2+1:=iAddC (by omega) (by omega)
  have e2:iAdd .i64 ((a+b) / 2) m=(a+b) / 2+m:=iAddC (by omega) (by omega)
  have e3:iSub .i64 ((a+b) / 2+m) 1=(a+b) / 2+m-1:=iSubC (by omega) (by omega)
  have e4:iSub .i64 ((a+b) / 2+m-1) ((i+j) / 2)=(a+b) / 2+m-1-(i+j) / 2:=iSubC (by omega) (by omega)
  rw [e,e2,e3,e4]
  by_cases hlt:i<j
  ·simp only [hlt,decide_true,Bool.not_true,cond_false,cond_true]
   show sort_symMerge_func_w3_2_l8 x0 a m b n (bif ltK (gt x0 ((a+b) / 2+m-1-(i+j) / 2)) (gt x0 ((i+j) / 2)) then _ else _) (bif ltK (gt x0 ((a+b) / 2+m-1-(i+j) / 2)) (gt x0 ((i+j) / 2)) then _ else _)=_
   cases ltK (gt x0 ((a+b) / 2+m-1-(i+j) / 2)) (gt x0 ((i+j) / 2)) with
   |true=>simp only [cond_true,Bool.not_true,cond_false];exact l8_bs ha hab hb hm0 hm1 n h0 (by omega) (by omega)
   |false=>simp only [cond_false,Bool.not_false,cond_true];exact l8_bs ha hab hb hm0 hm1 n (by omega) (by omega) h2
  ·simp only [hlt,decide_false,Bool.not_false,cond_true,cond_false]
theorem l5_ok {r:Int}:∀(k:Nat) (P B R:List GKey) (x:GKey) (i:Int),i=P.length→r=P.length+1+B.length→B.length<k→P.length+B.length+1<4294967296→
  sort_symMerge_func_w3_2_l5 r k i (P++x::(B++R))=P++B++x::R
 |0,P,B,R,x,i,hi,hr,hk,hlim=>by omega
 |k+1,P,B,R,x,i,hi,hr,hk,hlim=>by
  simp only [sort_symMerge_func_w3_2_l5]
  have e0:iSub .i64 r 1=r-1:=iSubC (by omega) (by omega)
  rw [e0]
  cases B with
  |nil=>
   have hd:decide (i<r-1)=false:=decide_eq_false (by simp at hr;omega)
   simp [hd]
  |cons y B=>
   simp only [List.length_cons] at *
   have hd:decide (i<r-1)=true:=decide_eq_true (by omega)
   have e1:iAdd .i64 i 1=i+1:=iAddC (by omega) (by omega)
   simp only [hd,Bool.not_true,cond_false,e1]
   have g1:(P++x::(y::B++R)).getD i.toNat default=x:=at_mid hi
   have g2:(P++x::(y::B++R)).getD (i+1).toNat default=y:=by
    rw [show P++x::(y::B++R)=(P++[x])++y::(B++R) by simp];exact at_mid (by simp;omega)
   rw [g1,g2,set_mid hi,show P++y::(y::B++R)=(P++[y])++y::(B++R) by simp,set_mid (by simp;omega)]
   rw [l5_ok k (P++[y]) B R x (i+1) (by simp;omega) (by simp;omega) (by omega) (by simp;omega)]
   simp
theorem l7_ok {r:Int}:∀(k:Nat) (R A T:List GKey) (y:GKey) (i:Int),r=R.length→i=R.length+A.length→A.length<k→R.length+A.length+1<4294967296→
  sort_symMerge_func_w3_2_l7 r k i (R++A++y::T)=R++y::(A++T)
 |0,R,A,T,y,i,hr,hi,hk,hlim=>by omega
 |k+1,R,A,T,y,i,hr,hi,hk,hlim=>by
  simp only [sort_symMerge_func_w3_2_l7]
  rcases List.eq_nil_or_concat A with rfl|⟨A',z,rfl⟩
  ·have hd:decide (i > r)=false:=decide_eq_false (by simp at hi;omega)
   simp [hd]
  ·simp only [List.concat_eq_append,List.length_append,List.length_cons,List.length_nil] at *
   have hd:decide (i > r)=true:=decide_eq_true (by omega)
   have e1:iSub .i64 i 1=i-1:=iSubC (by omega) (by omega)
   have g1:(R++(A'++[z])++y::T).getD i.toNat default=y:=at_mid (by simp;omega)
   have g2:(R++(A'++[z])++y::T).getD (i-1).toNat default=z:=by
    rw [show R++(A'++[z])++y::T=(R++A')++z::(y::T) by simp];exact at_mid (by simp;omega)
   simp only [hd,Bool.not_true,cond_false,e1,g1,g2]
   rw [set_mid (by simp;omega),show R++(A'++[z])++z::T=(R++A')++z::(z::T) by simp,set_mid (by simp;omega)]
   rw [show R++A'++y::z::T=R++A'++y::(z::T) by simp,l7_ok k R A' (z::T) y (i-1) hr (by omega) (by omega) (by omega)]
   simp
end Go.Fw
end
section
set_option linter.unusedVariables false
set_option linter.unusedSimpArgs false
set_option linter.unusedSectionVars false
namespace Go.Fw
set_option linter.unusedVariables false
set_option linter.unusedSimpArgs false
theorem swapRange_l4_len {a b n:Int}:∀{k:Nat} {i:Int} {l:List GKey},(sort_swapRange_func_w3_2_l4 a b n k i l).length=l.length
 |0,i,l=>rfl
 |k+1,i,l=>by
  simp only [sort_swapRange_func_w3_2_l4,Bool.cond_eq_ite]
  split
  ·rfl
  ·rw [swapRange_l4_len];simp
theorem swapRange_len {x0:List GKey}{a b n:Int}:(sort_swapRange_func_w3_2 x0 a b n).length=x0.length:=swapRange_l4_len
theorem insertion_l5_len {a:Int}:∀{k:Nat} {i:Int} {l:List GKey},(sort_insertionSort_func_w3_2_l5 a k i l).2.length=l.length
 |0,i,l=>rfl
 |k+1,i,l=>by
  simp only [sort_insertionSort_func_w3_2_l5,Bool.cond_eq_ite]
  split
  ·rfl
  ·split
   ·rfl
   ·rw [insertion_l5_len];simp
theorem insertion_l3_len {a b:Int}:∀{k:Nat} {i:Int} {l:List GKey},(sort_insertionSort_func_w3_2_l3 a b k i l).length=l.length
 |0,i,l=>rfl
 |k+1,i,l=>by
  simp only [sort_insertionSort_func_w3_2_l3,Bool.cond_eq_ite]
  split
  ·rfl
  ·rw [insertion_l3_len,insertion_l5_len]
theorem insertionSort_len {x0:List GKey}{a b:Int}:(sort_insertionSort_func_w3_2 x0 a b).length=x0.length:=insertion_l3_len
theorem rotate_l4_len {m:Int}:∀{k:Nat} {i j:Int} {l:List GKey},(sort_rotate_func_w3_2_l4 m k i j l).2.length=l.length
 |0,i,j,l=>rfl
 |k+1,i,j,l=>by
  simp only [sort_rotate_func_w3_2_l4,Bool.cond_eq_ite]
  split
  ·rfl
  ·split
   ·rw [rotate_l4_len,swapRange_len]
   ·rw [rotate_l4_len,swapRange_len]
theorem rotate_len {x0:List GKey}{a m b:Int}:(sort_rotate_func_w3_2 x0 a m b).length=x0.length:=by
 simp only [sort_rotate_func_w3_2,swapRange_len,rotate_l4_len]
theorem symMerge_l5_len {r:Int}:∀{k:Nat} {i:Int} {l:List GKey},(sort_symMerge_func_w3_2_l5 r k i l).length=l.length
 |0,i,l=>rfl
 |k+1,i,l=>by
  simp only [sort_symMerge_func_w3_2_l5,Bool.cond_eq_ite]
  split
  ·rfl
  ·rw [symMerge_l5_len];simp
theorem symMerge_l7_len {r:Int}:∀{k:Nat} {i:Int} {l:List GKey},(sort_symMerge_func_w3_2_l7 r k i l).length=l.length
 |0,i,l=>rfl
 |k+1,i,l=>by
  simp only [sort_symMerge_func_w3_2_l7,Bool.cond_eq_ite]
  split
  ·rfl
  ·rw [symMerge_l7_len];simp
theorem symMerge_len : ∀{n:Nat} {x0:List GKey} {a m b:Int},(sort_symMerge_func_w3_2 n x0 a m b).length=x0.length
 |0,x0,a,m,b=>rfl
 |n+1,x0,a,m,b=>by
  unfold sort_symMerge_func_w3_2
  dsimp only
  refine (cond_len ?_ (cond_len ?_ (cond_len ?_ (cond_len ?_ (cond_len ?_ (cond_len ?_ (cond_len ?_ (cond_len ?_ (cond_len ?_ ?_)))))))))
  all_goals first|rfl|simp only [symMerge_l5_len,symMerge_l7_len,symMerge_len (n:=n),rotate_len]
theorem stable_l2_len {x1:Int}:∀{n:Nat} {a b:Int} {l:List GKey},(sort_stable_func_w3_2_l2 x1 n a b l).2.2.length=l.length
 |0,a,b,l=>rfl
 |n+1,a,b,l=>by
  simp only [sort_stable_func_w3_2_l2,Bool.cond_eq_ite]
  split
  ·rfl
  ·rw [stable_l2_len,insertionSort_len]
theorem stable_l11_len {x1 s:Int}:∀{n:Nat} {a b:Int} {l:List GKey},(sort_stable_func_w3_2_l11 x1 s n a b l).2.2.length=l.length
 |0,a,b,l=>rfl
 |n+1,a,b,l=>by
  simp only [sort_stable_func_w3_2_l11,Bool.cond_eq_ite]
  split
  ·rfl
  ·rw [stable_l11_len,symMerge_len]
theorem stable_l7_len {x1:Int}:∀{n:Nat} {s a b:Int} {l:List GKey},(sort_stable_func_w3_2_l7 x1 n s a b l).length=l.length
 |0,s,a,b,l=>rfl
 |n+1,s,a,b,l=>by
  simp only [sort_stable_func_w3_2_l7,Bool.cond_eq_ite]
  split
  ·rfl
  ·split
   ·rw [stable_l7_len,symMerge_len,stable_l11_len]
   ·rw [stable_l7_len,stable_l11_len]
theorem stable_len {x0:List GKey}{x1:Int}:(sort_stable_func_w3_2 x0 x1).length=x0.length:=by
 simp only [sort_stable_func_w3_2,stable_l7_len,insertionSort_len,stable_l2_len]
theorem key_Order_o_eq (x0:List GKey)(hb:x0.length≤4294967296):key_Order_o x0=key_Order x0:=by
 unfold key_Order_o key_Order
 dsimp only
 rw [mLen_eq]
 have hs:(sort_stable_func_w3_2 x0 (x0.length:Int)).length=x0.length:=stable_len
 have:((sort_stable_func_w3_2 x0 (x0.length:Int)).drop 0).take ((x0.length:Int).toNat-0)=sort_stable_func_w3_2 x0 x0.length:=by
  rw [List.drop_zero];exact List.take_of_length_le (by omega)
 rw [this]
theorem app1_len {α:Type}{f:α→List AV}{l:List α}{x:α}(h:l.length≤4294967296):iSub .i64 (mLen f (l++[x])) 1=l.length:=by
 rw [mLen_eq,List.length_append,iSubC (by simp<;>omega) (by simp<;>omega)]
 simp
end Go.Fw
end
section
set_option linter.unusedVariables false
set_option linter.unusedSimpArgs false
set_option linter.unusedSectionVars false
namespace Go.Fw
set_option linter.unusedVariables false
set_option linter.unusedSimpArgs false
theorem mem_gt {P A T:List GKey}{x:GKey}(hx:x∈A):∃c:Int,(P.length:Int)≤c∧c<P.length+A.length∧gt (P++A++T) c=x:=by
 obtain ⟨A1,A2,rfl⟩:=List.append_of_mem hx
 refine ⟨P.length+A1.length,by omega,by simp;omega,?_⟩
 show (P++(A1++x::A2)++T).getD _ default=x
 rw [show P++(A1++x::A2)++T=(P++A1)++x::(A2++T) by simp]
 exact at_mid (by simp)
theorem gt_mem {P A T:List GKey}{c:Int}(h0:(P.length:Int)≤c)(h1:c<P.length+A.length):∃A1 A2,A=A1++gt (P++A++T) c::A2∧(A1.length:Int)=c-P.length:=by
 refine ⟨A.take (c-P.length).toNat,A.drop ((c-P.length).toNat+1),?_,by simp;omega⟩
 have hk:(c-P.length).toNat<A.length:=by omega
 have e:gt (P++A++T) c=A.getD (c-P.length).toNat default:=by
  show (P++A++T).getD c.toNat default=_
  simp only [List.getD_eq_getElem?_getD,List.append_assoc]
  rw [List.getElem?_append_right (by omega),List.getElem?_append_left (by omega),show c.toNat-P.length=(c-P.length).toNat by omega]
 rw [e,← q_drop A _ hk,List.take_append_drop]
theorem seg_srt {P A T:List GKey}(hs:Srt A){c d:Int}(h0:(P.length:Int)≤c)(h1:c≤d)(h2:d<P.length+A.length):ltK (gt (P++A++T) d) (gt (P++A++T) c)=false:=by
 by_cases hcd:c=d
 ·subst hcd;rw [ltK_f];omega
 obtain ⟨A1,A2,q1,q2⟩:=gt_mem (T:=T) h0 (by omega:c<P.length+A.length)
 generalize gt (P++A++T) c=x at *
 have e:P++A++T=(P++(A1++[x]))++A2++T:=by rw [q1];simp
 rw [e]
 obtain ⟨B1,B2,r1,r2⟩:=gt_mem (P:=P++(A1++[x])) (A:=A2) (T:=T) (c:=d) (by simp;omega) (by rw [q1] at h2;simp at h2 ⊢;omega)
 generalize gt ((P++(A1++[x]))++A2++T) d=y at *
 rw [q1] at hs
 have:=(List.pairwise_append.1 hs).2.1
 have:=(List.pairwise_cons.1 this).1 y (by rw [r1];simp)
 exact this
theorem srt_app {A B:List GKey}(ha:Srt A)(hb:Srt B)(h:∀x∈A,∀y∈B,ltK y x=false):Srt (A++B):=List.pairwise_append.2 ⟨ha,hb,h⟩
theorem split_at {A:List GKey}{k:Int}(h0:0≤k)(h1:k≤A.length):∃A1 A2,A=A1++A2∧(A1.length:Int)=k:=
 ⟨A.take k.toNat,A.drop k.toNat,(List.take_append_drop _ _).symm,by simp;omega⟩
theorem cut_ok {P A B T:List GKey}{a m b mid lo hi r:Int}{k:Nat}(ha:a=P.length)(hm:m=a+A.length)(hb:b=m+B.length)(hA:Srt A)(hB:Srt B)(hmid:mid=(a+b) / 2)
  (hlo:lo=if m > mid then mid+m-b else a) (hhi:hi=if m > mid then mid else m) (hA0:0<A.length) (hB0:0<B.length)
  (hr:r=bs (fun c=>!ltK (gt (P++A++B++T) (mid+m-1-c)) (gt (P++A++B++T) c)) k lo hi) (hk:b-a<k) :
  ∃A1 A2 B1 B2,A=A1++A2∧B=B1++B2∧r=a+A1.length∧mid-r=B1.length∧(∀x∈A1,∀y∈B2,ltK y x=false)∧(∀x∈A2,∀y∈B1,ltK y x=true):=by
 have hlh:lo≤hi:=by split at hlo<;>split at hhi<;>omega
 have bd:=bs_bd (q:=fun c=>!ltK (gt (P++A++B++T) (mid+m-1-c)) (gt (P++A++B++T) c)) k hlh
 rw [← hr] at bd
 have eA:∀c d:Int,a≤c→c≤d→d<m→ltK (gt (P++A++B++T) d) (gt (P++A++B++T) c)=false:=by
  intro c d h1 h2 h3
  have:=seg_srt (P:=P) (T:=B++T) hA (c:=c) (d:=d) (by omega) h2 (by omega)
  rw [show P++A++B++T=P++A++(B++T) by simp];exact this
 have eB:∀c d:Int,m≤c→c≤d→d<b→ltK (gt (P++A++B++T) d) (gt (P++A++B++T) c)=false:=by
  intro c d h1 h2 h3
  exact seg_srt (P:=P++A) (T:=T) hB (c:=c) (d:=d) (by simp;omega) h2 (by simp;omega)
 obtain ⟨h1,h2⟩:=bs_ok (q:=fun c=>!ltK (gt (P++A++B++T) (mid+m-1-c)) (gt (P++A++B++T) c)) k hlh (by split at hlo<;>split at hhi<;>omega) (by
  intro c d h1 h2 h3 h4
  simp only [Bool.not_eq_true'] at h4 ⊢
  have q1:=eA c d (by split at hlo<;>omega) h2 (by split at hhi<;>omega)
  have q2:=eB (mid+m-1-d) (mid+m-1-c) (by split at hhi<;>omega) (by omega) (by split at hlo<;>omega)
  exact le_trans' q1 (le_trans' h4 q2))
 rw [← hr] at h1 h2
 have b1:a≤r:=by split at hlo<;>omega
 have b2:r≤m:=by split at hhi<;>omega
 have b3:r≤mid:=by split at hhi<;>omega
 have b4:mid+m-r≤b:=by split at hlo<;>omega
 obtain ⟨A1,A2,rfl,l1⟩:=split_at (A:=A) (k:=r-a) (by omega) (by omega)
 obtain ⟨B1,B2,rfl,l2⟩:=split_at (A:=B) (k:=mid-r) (by omega) (by omega)
 simp only [List.length_append] at *
 refine ⟨A1,A2,B1,B2,rfl,rfl,by omega,by omega,fun x hx y hy=>?_,fun x hx y hy=>?_⟩
 ·obtain ⟨c,c0,c1,c2⟩:=mem_gt (P:=P) (T:=A2++(B1++B2)++T) hx
  obtain ⟨d,d0,d1,d2⟩:=mem_gt (P:=P++(A1++A2)++B1) (T:=T) hy
  rw [show P++A1++(A2++(B1++B2)++T)=P++(A1++A2)++(B1++B2)++T by simp] at c2
  rw [show P++(A1++A2)++B1++B2++T=P++(A1++A2)++(B1++B2)++T by simp] at d2
  simp only [List.length_append] at d0 d1
  have q:=h1 (r-1) (by split at hlo<;>omega) (by omega)
  simp only [Bool.not_eq_true'] at q
  have q1:=eA c (r-1) (by omega) (by omega) (by omega)
  have q2:=eB (mid+m-1-(r-1)) d (by omega) (by omega) (by omega)
  rw [← c2,← d2]
  exact le_trans' q1 (le_trans' q q2)
 ·obtain ⟨c,c0,c1,c2⟩:=mem_gt (P:=P++A1) (T:=(B1++B2)++T) hx
  obtain ⟨d,d0,d1,d2⟩:=mem_gt (P:=P++(A1++A2)) (T:=B2++T) hy
  rw [show P++A1++A2++(B1++B2++T)=P++(A1++A2)++(B1++B2)++T by simp] at c2
  rw [show P++(A1++A2)++B1++(B2++T)=P++(A1++A2)++(B1++B2)++T by simp] at d2
  simp only [List.length_append] at c0 c1 d0 d1
  have q:=h2 r (by omega) (by split at hhi<;>omega)
  simp only [Bool.not_eq_false'] at q
  have q1:=eA r c (by omega) (by omega) (by omega)
  have q2:=eB d (mid+m-1-r) (by omega) (by omega) (by omega)
  rw [← c2,← d2]
  exact lt_of_lt_of_le' (lt_of_le_of_lt' q2 q) q1
theorem one1 {A:List GKey}(h:A.length=1):∃x,A=[x]:=by
 match A,h with
 |[x],_=>exact ⟨x,rfl⟩
theorem one_up {P B T:List GKey}{x:GKey}{a m b:Int}(ha:a=P.length)(hm:m=a+1)(hb:b=m+B.length)(hB:Srt B)(hlim:b<4294967296) :
  ∃C,sort_symMerge_func_w3_2_l5 (sort_symMerge_func_w3_2_l4 (P++[x]++B++T) a ((b-m).toNat+1) m b) ((iSub .i64 (sort_symMerge_func_w3_2_l4 (P++[x]++B++T) a ((b-m).toNat+1) m b) 1).toNat+1) a (P++[x]++B++T)=P++C++T∧Srt C∧Eqp C ([x]++B):=by
 rw [l4_bs _ (by omega) (by omega) (by omega)]
 have gx:gt (P++[x]++B++T) a=x:=by
  show (P++[x]++B++T).getD _ default=x
  rw [show P++[x]++B++T=P++x::(B++T) by simp];exact at_mid ha
 rw [gx]
 have eB:∀c d:Int,m≤c→c≤d→d<b→ltK (gt (P++[x]++B++T) d) (gt (P++[x]++B++T) c)=false:=by
  intro c d h1 h2 h3
  exact seg_srt (P:=P++[x]) (T:=T) hB (c:=c) (d:=d) (by simp;omega) h2 (by simp;omega)
 generalize hr:bs (fun c=>ltK (gt (P++[x]++B++T) c) x) ((b-m).toNat+1) m b=r
 have bd:=bs_bd (q:=fun c=>ltK (gt (P++[x]++B++T) c) x) ((b-m).toNat+1) (i:=m) (j:=b) (by omega)
 obtain ⟨h1,h2⟩:=bs_ok (q:=fun c=>ltK (gt (P++[x]++B++T) c) x) ((b-m).toNat+1) (i:=m) (j:=b) (by omega) (by omega) (fun c d h1 h2 h3 h4=>lt_of_le_of_lt' (eB c d h1 h2 h3) h4)
 rw [hr] at bd h1 h2
 obtain ⟨B1,B2,rfl,l1⟩:=split_at (A:=B) (k:=r-m) (by omega) (by omega)
 have m1:∀y∈B1,ltK y x=true:=by
  intro y hy
  obtain ⟨c,c0,c1,c2⟩:=mem_gt (P:=P++[x]) (T:=B2++T) hy
  rw [← c2,show P++[x]++B1++(B2++T)=P++[x]++(B1++B2)++T by simp]
  exact h1 c (by simp at c0;omega) (by simp at c1;omega)
 have m2:∀y∈B2,ltK y x=false:=by
  intro y hy
  obtain ⟨c,c0,c1,c2⟩:=mem_gt (P:=P++[x]++B1) (T:=T) hy
  rw [← c2,show P++[x]++B1++B2++T=P++[x]++(B1++B2)++T by simp]
  simp at c0 c1 hb
  exact h2 c (by omega) (by omega)
 have e1:iSub .i64 r 1=r-1:=iSubC (by omega) (by omega)
 rw [e1,show P++[x]++(B1++B2)++T=P++x::(B1++(B2++T)) by simp,l5_ok _ P B1 (B2++T) x a ha (by omega) (by omega) (by simp at hb;omega)]
 obtain ⟨s1,s2,s3⟩:=List.pairwise_append.1 hB
 refine ⟨B1++x::B2,by simp,List.pairwise_append.2 ⟨s1,List.pairwise_cons.2 ⟨m2,s2⟩,fun y hy z hz=>?_⟩,?_⟩
 ·cases hz with
  |head=>exact le_of_lt' (m1 y hy)
  |tail _ hz=>exact s3 y hy z hz
 ·rw [show B1++x::B2=(B1++[x])++B2 by simp,← List.append_assoc]
  exact Eqp.app (Eqp.symm (Eqp.swap fun z hz y hy=>by simp at hz;subst hz;exact m1 y hy)) (Eqp.refl _)
theorem one_down {P A T:List GKey}{y:GKey}{a m:Int}(ha:a=P.length)(hm:m=a+A.length)(hA:Srt A)(hlim:m+1<4294967296) :
  ∃C,sort_symMerge_func_w3_2_l7 (sort_symMerge_func_w3_2_l6 (P++A++[y]++T) m ((m-a).toNat+1) a m) ((m-a).toNat+1) m (P++A++[y]++T)=P++C++T∧Srt C∧Eqp C (A++[y]):=by
 rw [l6_bs _ (by omega) (by omega) (by omega)]
 have gx:gt (P++A++[y]++T) m=y:=by
  show (P++A++[y]++T).getD _ default=y
  rw [show P++A++[y]++T=(P++A)++y::T by simp];exact at_mid (by simp;omega)
 rw [gx]
 have eA:∀c d:Int,a≤c→c≤d→d<m→ltK (gt (P++A++[y]++T) d) (gt (P++A++[y]++T) c)=false:=by
  intro c d h1 h2 h3
  rw [show P++A++[y]++T=P++A++([y]++T) by simp]
  exact seg_srt (P:=P) (T:=[y]++T) hA (c:=c) (d:=d) (by omega) h2 (by omega)
 generalize hr:bs (fun c=>!ltK y (gt (P++A++[y]++T) c)) ((m-a).toNat+1) a m=r
 have bd:=bs_bd (q:=fun c=>!ltK y (gt (P++A++[y]++T) c)) ((m-a).toNat+1) (i:=a) (j:=m) (by omega)
 obtain ⟨h1,h2⟩:=bs_ok (q:=fun c=>!ltK y (gt (P++A++[y]++T) c)) ((m-a).toNat+1) (i:=a) (j:=m) (by omega) (by omega) (fun c d h1 h2 h3 h4=>by
  simp only [Bool.not_eq_true'] at h4 ⊢
  exact le_trans' (eA c d h1 h2 h3) h4)
 rw [hr] at bd h1 h2
 obtain ⟨A1,A2,rfl,l1⟩:=split_at (A:=A) (k:=r-a) (by omega) (by omega)
 simp only [List.length_append] at hm
 have m1:∀z∈A1,ltK y z=false:=by
  intro z hz
  obtain ⟨c,c0,c1,c2⟩:=mem_gt (P:=P) (T:=A2++[y]++T) hz
  rw [← c2,show P++A1++(A2++[y]++T)=P++(A1++A2)++[y]++T by simp]
  have:=h1 c (by omega) (by omega)
  simpa using this
 have m2:∀z∈A2,ltK y z=true:=by
  intro z hz
  obtain ⟨c,c0,c1,c2⟩:=mem_gt (P:=P++A1) (T:=[y]++T) hz
  rw [← c2,show P++A1++A2++([y]++T)=P++(A1++A2)++[y]++T by simp]
  simp only [List.length_append] at c0 c1
  have:=h2 c (by omega) (by omega)
  simpa using this
 rw [show P++(A1++A2)++[y]++T=(P++A1)++A2++y::T by simp,l7_ok _ (P++A1) A2 T y m (by simp;omega) (by simp;omega) (by omega) (by simp;omega)]
 refine ⟨A1++y::A2,by simp,ins_srt hA m1 m2,ins_eqp m2⟩
theorem nine {α:Type}{c1 c2 c3:Bool}{x v9:α}{M1 M2:α→α} :
  (bif c1&&(c2&&c3) then M2 (M1 v9) else bif c1&&c2 then M1 v9 else bif c1&&c3 then M2 v9 else bif c1 then v9 else bif c2&&c3 then M2 (M1 x) else bif c2 then M1 x else bif c3 then M2 x else x)
   = (bif c3 then M2 (bif c2 then M1 (bif c1 then v9 else x) else (bif c1 then v9 else x)) else (bif c2 then M1 (bif c1 then v9 else x) else (bif c1 then v9 else x))):=by
 cases c1<;>cases c2<;>cases c3<;>rfl
theorem symMerge_ok : ∀(k:Nat) (P A B T:List GKey) (a m b:Int),a=P.length→m=a+A.length→b=m+B.length→0<A.length→0<B.length→b-a≤k→4*b<4294967296→Srt A→Srt B→
  ∃C,sort_symMerge_func_w3_2 k (P++A++B++T) a m b=P++C++T∧Srt C∧Eqp C (A++B)
 |0,P,A,B,T,a,m,b,ha,hm,hb,hA,hB,hk,hlim,sA,sB=>by omega
 |k+1,P,A,B,T,a,m,b,ha,hm,hb,hA,hB,hk,hlim,sA,sB=>by
  unfold sort_symMerge_func_w3_2
  simp only [show IntKind.wrap .i64 (iShr .u64 (IntKind.wrap .u64 (iAdd .i64 a b)) 1)=(a+b) / 2 from midT_eq (by omega) (by omega) (by omega)]
  have e1:iSub .i64 m a=m-a:=iSubC (by omega) (by omega)
  have e2:iSub .i64 b m=b-m:=iSubC (by omega) (by omega)
  simp only [e1,e2]
  by_cases hA1:A.length=1
  ·obtain ⟨x,rfl⟩:=one1 hA1
   simp only [show iEq (m-a) 1=true from by rw [qiEq];exact decide_eq_true (by omega),cond_true]
   exact one_up ha (by simp at hm;omega) hb sB (by omega)
  simp only [show iEq (m-a) 1=false from by rw [qiEq];exact decide_eq_false (by omega),cond_false]
  by_cases hB1:B.length=1
  ·obtain ⟨y,rfl⟩:=one1 hB1
   simp only [show iEq (b-m) 1=true from by rw [qiEq];exact decide_eq_true (by omega),cond_true]
   exact one_down ha hm sA (by simp at hb;omega)
  simp only [show iEq (b-m) 1=false from by rw [qiEq];exact decide_eq_false (by omega),cond_false]
  have e3:iAdd .i64 ((a+b) / 2) m=(a+b) / 2+m:=iAddC (by omega) (by omega)
  have e4:iSub .i64 ((a+b) / 2+m) b=(a+b) / 2+m-b:=iSubC (by omega) (by omega)
  simp only [e3,e4]
  generalize hlo:(bif decide (m > (a+b) / 2) then (a+b) / 2+m-b else a)=lo
  generalize hhi:(bif decide (m > (a+b) / 2) then (a+b) / 2 else m)=hi
  have hlo':lo=if m > (a+b) / 2 then (a+b) / 2+m-b else a:=by rw [← hlo];simp only [Bool.cond_eq_ite,decide_eq_true_eq]
  have hhi':hi=if m > (a+b) / 2 then (a+b) / 2 else m:=by rw [← hhi];simp only [Bool.cond_eq_ite,decide_eq_true_eq]
  rw [l8_bs (by omega) (by omega) (by omega) (by omega) (by omega) _ (by split at hlo'<;>omega) (by split at hlo'<;>split at hhi'<;>omega) (by split at hhi'<;>omega)]
  obtain ⟨A1,A2,B1,B2,rfl,rfl,q1,q2,q3,q4⟩:=cut_ok (P:=P) (A:=A) (B:=B) (T:=T) ha hm hb sA sB rfl hlo' hhi' hA hB rfl (by omega:b-a<(((b-a).toNat+1:Nat):Int))
  generalize hr:bs (fun c=>!ltK (gt (P++(A1++A2)++(B1++B2)++T) ((a+b) / 2+m-1-c)) (gt (P++(A1++A2)++(B1++B2)++T) c)) ((b-a).toNat+1) lo hi=r at *
  simp only [List.length_append] at *
  have e5:iSub .i64 ((a+b) / 2+m) r=(a+b) / 2+m-r:=iSubC (by omega) (by omega)
  simp only [e5]
  generalize hmid:(a+b) / 2=mid at *
  rw [nine (M1:=fun l=>sort_symMerge_func_w3_2 k l a r mid) (M2:=fun l=>sort_symMerge_func_w3_2 k l mid (mid+m-r) b)]
  obtain ⟨sA1,sA2,sA3⟩:=List.pairwise_append.1 sA
  obtain ⟨sB1,sB2,sB3⟩:=List.pairwise_append.1 sB
  have w:(bif (decide (r<m)&&decide (m<mid+m-r)) then sort_rotate_func_w3_2 (P++(A1++A2)++(B1++B2)++T) r m (mid+m-r) else P++(A1++A2)++(B1++B2)++T)=P++A1++B1++(A2++B2++T):=by
   by_cases h1:r<m
   ·by_cases h2:m<mid+m-r
    ·simp only [h1,h2,decide_true,Bool.true_and,cond_true]
     have:=rotate_ok (P:=P++A1) (A:=A2) (B:=B1) (T:=B2++T) (a:=r) (m:=m) (b:=mid+m-r) (by simp;omega) (by omega) (by omega) (by omega) (by omega) (by simp;omega)
     rw [show P++(A1++A2)++(B1++B2)++T=P++A1++A2++B1++(B2++T) by simp,this]
     simp
    ·have:B1=[]:=List.length_eq_zero_iff.1 (by omega)
     subst this
     simp [h2]
   ·have:A2=[]:=List.length_eq_zero_iff.1 (by omega)
    subst this
    simp [h1]
  rw [w]
  have w2:∃D,(bif (decide (a<r)&&decide (r<mid)) then sort_symMerge_func_w3_2 k (P++A1++B1++(A2++B2++T)) a r mid else P++A1++B1++(A2++B2++T))=P++D++(A2++B2++T)∧Srt D∧Eqp D (A1++B1)∧D.length=A1.length+B1.length:=by
   by_cases h1:a<r
   ·by_cases h2:r<mid
    ·simp only [h1,h2,decide_true,Bool.true_and,cond_true]
     obtain ⟨C,c1,c2,c3⟩:=symMerge_ok k P A1 B1 (A2++B2++T) a r mid ha (by omega) (by omega) (by omega) (by omega) (by omega) (by omega) sA1 sB1
     refine ⟨C,c1,c2,c3,?_⟩
     have:=congrArg List.length c1
     rw [symMerge_len] at this
     simp at this
     omega
    ·have:B1=[]:=List.length_eq_zero_iff.1 (by omega)
     subst this
     exact ⟨A1,by simp [h2],sA1,by simpa using Eqp.refl _,by simp⟩
   ·have:A1=[]:=List.length_eq_zero_iff.1 (by omega)
    subst this
    exact ⟨B1,by simp [h1],sB1,by simpa using Eqp.refl _,by simp⟩
  obtain ⟨D,d1,d2,d3,d4⟩:=w2
  rw [d1]
  have w3:∃E,(bif (decide (mid<mid+m-r)&&decide (mid+m-r<b)) then sort_symMerge_func_w3_2 k (P++D++(A2++B2++T)) mid (mid+m-r) b else P++D++(A2++B2++T))=P++D++(E++T)∧Srt E∧Eqp E (A2++B2):=by
   by_cases h1:mid<mid+m-r
   ·by_cases h2:mid+m-r<b
    ·simp only [h1,h2,decide_true,Bool.true_and,cond_true]
     obtain ⟨C,c1,c2,c3⟩:=symMerge_ok k (P++D) A2 B2 T mid (mid+m-r) b (by simp;omega) (by omega) (by omega) (by omega) (by omega) (by omega) (by omega) sA2 sB2
     exact ⟨C,by rw [show P++D++(A2++B2++T)=P++D++A2++B2++T by simp,c1];simp,c2,c3⟩
    ·have:B2=[]:=List.length_eq_zero_iff.1 (by omega)
     subst this
     exact ⟨A2,by simp [h2],sA2,by simpa using Eqp.refl _⟩
   ·have:A2=[]:=List.length_eq_zero_iff.1 (by omega)
    subst this
    exact ⟨B2,by simp [h1],sB2,by simpa using Eqp.refl _⟩
  obtain ⟨E,f1,f2,f3⟩:=w3
  rw [f1]
  refine ⟨D++E,by simp,srt_app d2 f2 fun x hx y hy=>?_,?_⟩
  ·have hx:=d3.len_mem x hx
   have hy:=f3.len_mem y hy
   rcases List.mem_append.1 hx with hx|hx<;>rcases List.mem_append.1 hy with hy|hy
   ·exact sA3 x hx y hy
   ·exact q3 x hx y hy
   ·exact le_of_lt' (q4 y hy x hx)
   ·exact sB3 x hx y hy
  ·refine (Eqp.app d3 f3).trans ?_
   rw [show A1++B1++(A2++B2)=A1++(B1++A2)++B2 by simp,show A1++A2++(B1++B2)=A1++(A2++B1)++B2 by simp]
   exact Eqp.app (Eqp.app (Eqp.refl _) (Eqp.symm (Eqp.swap q4))) (Eqp.refl _)
end Go.Fw
end
section
set_option linter.unusedVariables false
set_option linter.unusedSimpArgs false
set_option linter.unusedSectionVars false
namespace Go.Fw
set_option linter.unusedVariables false
set_option linter.unusedSimpArgs false
inductive Full (s:Int):List GKey→Prop
 |nil:Full s []
 |cons {b r:List GKey}:(b.length:Int)=s→Srt b→Full s r→Full s (b++r)
theorem stable_l2_ok {x1:Int}(hlim:x1+64<4294967296):∀(k:Nat) (P R:List GKey) (a b:Int),a=P.length→b=a+20→x1=a+R.length→R.length<k→
  ∃Q R',(sort_stable_func_w3_2_l2 x1 k a b (P++R)).2.2=P++Q++R'∧(sort_stable_func_w3_2_l2 x1 k a b (P++R)).1=a+Q.length∧Full 20 Q∧R'.length<20∧Eqp (Q++R') R∧x1=a+Q.length+R'.length
 |0,P,R,a,b,ha,hb,hx,hk=>by omega
 |k+1,P,R,a,b,ha,hb,hx,hk=>by
  simp only [sort_stable_func_w3_2_l2]
  by_cases hd:b≤x1
  ·simp only [decide_eq_true hd,Bool.not_true,cond_false]
   have e:iAdd .i64 b 20=b+20:=iAddC (by omega) (by omega)
   rw [e]
   obtain ⟨M,R,rfl,l1⟩:=split_at (A:=R) (k:=20) (by omega) (by omega)
   simp only [List.length_append] at *
   obtain ⟨M',q1,q2,q3⟩:=insertion_ok (P:=P) (M:=M) (T:=R) (a:=a) (b:=b) ha (by omega) (by omega)
   have lM:M'.length=M.length:=by
    have:=congrArg List.length q1
    rw [insertionSort_len] at this
    simp at this;omega
   rw [show P++(M++R)=P++M++R by simp,q1]
   obtain ⟨Q,R',r1,r2,r3,r4,r5,r6⟩:=stable_l2_ok hlim k (P++M') R b (b+20) (by simp;omega) rfl (by omega) (by omega)
   refine ⟨M'++Q,R',by rw [r1];simp,by rw [r2];simp;omega,Full.cons (by omega) q2 r3,r4,?_,by simp;omega⟩
   rw [List.append_assoc]
   exact Eqp.app q3 r5
  ·simp only [decide_eq_false hd,Bool.not_false,cond_true]
   exact ⟨[],R,by simp,by simp,Full.nil,by omega,Eqp.refl _,by simp;omega⟩
def Rest (s:Int)(R:List GKey):Prop:=(∃b R0,R=b++R0∧(b.length:Int)=s∧Srt b∧Srt R0∧(R0.length:Int)<s)∨(Srt R∧(R.length:Int)<s)
theorem stable_l11_ok {x1 s:Int}(h0:20≤s)(h8:s≤2*x1+20)(hlim:64*x1+640<4294967296):∀(k:Nat) (P Q R:List GKey) (a b:Int),a=P.length→b=a+2*s→x1=a+Q.length+R.length→Q.length<k→Full s Q→Srt R→(R.length:Int)<s→
  ∃Q' R',(sort_stable_func_w3_2_l11 x1 s k a b (P++Q++R)).2.2=P++Q'++R'∧(sort_stable_func_w3_2_l11 x1 s k a b (P++Q++R)).1=a+Q'.length∧Full (2*s) Q'∧Rest s R'∧Eqp (Q'++R') (Q++R)∧x1=a+Q'.length+R'.length
 |0,P,Q,R,a,b,ha,hb,hx,hk,hf,hr,hl=>by omega
 |k+1,P,Q,R,a,b,ha,hb,hx,hk,hf,hr,hl=>by
  simp only [sort_stable_func_w3_2_l11]
  have e0:iMul .i64 2 s=2*s:=iMulC (by omega) (by omega)
  have e1:iAdd .i64 a s=a+s:=iAddC (by omega) (by omega)
  rw [e0,e1]
  cases hf with
  |nil=>
   have hd:¬b≤x1:=by simp at hx;omega
   simp only [decide_eq_false hd,Bool.not_false,cond_true]
   exact ⟨[],R,by simp,by simp,Full.nil,Or.inr ⟨hr,hl⟩,Eqp.refl _,by simp at hx ⊢;omega⟩
  |@cons b0 Q1 l0 s0 f1=>
   cases f1 with
   |nil=>
    have hd:¬b≤x1:=by simp at hx;omega
    simp only [decide_eq_false hd,Bool.not_false,cond_true]
    exact ⟨[],b0++R,by simp,by simp,Full.nil,Or.inl ⟨b0,R,rfl,l0,s0,hr,hl⟩,by simpa using Eqp.refl _,by simp at hx ⊢;omega⟩
   |@cons b1 Q2 l1 s1 f2=>
    simp only [List.length_append] at *
    have hd:b≤x1:=by omega
    simp only [decide_eq_true hd,Bool.not_true,cond_false]
    have e:iAdd .i64 b (2*s)=b+2*s:=iAddC (by omega) (by omega)
    rw [e]
    obtain ⟨C,c1,c2,c3⟩:=symMerge_ok ((b-a).toNat+1) P b0 b1 (Q2++R) a (a+s) b ha (by omega) (by omega) (by omega) (by omega) (by omega) (by omega) s0 s1
    have lC:C.length=b0.length+b1.length:=by
     have:=congrArg List.length c1
     rw [symMerge_len] at this
     simp at this;omega
    rw [show P++(b0++(b1++Q2))++R=P++b0++b1++(Q2++R) by simp,c1,← List.append_assoc]
    obtain ⟨Q',R',r1,r2,r3,r4,r5,r6⟩:=stable_l11_ok h0 h8 hlim k (P++C) Q2 R b (b+2*s) (by simp;omega) rfl (by omega) (by omega) f2 hr hl
    refine ⟨C++Q',R',by rw [r1];simp,by rw [r2];simp;omega,Full.cons (by omega) c2 r3,r4,?_,by simp;omega⟩
    rw [show C++Q'++R'=C++(Q'++R') by simp,show b0++(b1++Q2)++R=(b0++b1)++(Q2++R) by simp]
    exact Eqp.app c3 r5
theorem stable_l7_ok {x1:Int}(hlim:64*x1+640<4294967296):∀(k:Nat) (Q R:List GKey) (s u v:Int),20≤s→s≤2*x1+20→x1=Q.length+R.length→x1-s<k→0<k→Full s Q→Srt R→(R.length:Int)<s→
  ∃L,sort_stable_func_w3_2_l7 x1 k s u v (Q++R)=L∧Srt L∧Eqp L (Q++R)
 |0,Q,R,s,u,v,h0,h8,hx,hk,hk0,hf,hr,hl=>by omega
 |k+1,Q,R,s,u,v,h0,h8,hx,hk,hk0,hf,hr,hl=>by
  simp only [sort_stable_func_w3_2_l7]
  by_cases hd:s<x1
  ·simp only [decide_eq_true hd,Bool.not_true,cond_false]
   have e0:iMul .i64 2 s=2*s:=iMulC (by omega) (by omega)
   have e2:iMul .i64 s 2=s*2:=iMulC (by omega) (by omega)
   rw [e0,e2]
   obtain ⟨Q',R',r1,r2,r3,r4,r5,r6⟩:=stable_l11_ok h0 h8 hlim ((x1+2*s).toNat+1) [] Q R 0 (2*s) rfl (by omega) (by omega) (by omega) hf hr hl
   simp only [List.nil_append] at r1 r2
   rw [r1,r2]
   have e1:iAdd .i64 (0+(Q'.length:Int)) s=Q'.length+s:=by rw [iAddC (by omega) (by omega)];omega
   rw [e1,show s*2=2*s by omega]
   rcases r4 with ⟨b,R0,rfl,l1,s1,s0,l0⟩|⟨s1,l1⟩
   ·simp only [List.length_append] at r6
    by_cases h1:(Q'.length:Int)+s<x1
    ·simp only [decide_eq_true h1,cond_true]
     obtain ⟨C,c1,c2,c3⟩:=symMerge_ok ((x1-(0+(Q'.length:Int))).toNat+1) Q' b R0 [] (0+Q'.length) (Q'.length+s) x1 (by omega) (by omega) (by omega) (by omega) (by omega) (by omega) (by omega) s1 s0
     have lC:C.length=b.length+R0.length:=by
      have:=congrArg List.length c1
      rw [symMerge_len] at this
      simp at this;omega
     simp only [List.append_nil] at c1
     rw [← List.append_assoc,c1]
     obtain ⟨L,d1,d2,d3⟩:=stable_l7_ok hlim k Q' C (2*s) (0+Q'.length) ((sort_stable_func_w3_2_l11 x1 s ((x1+2*s).toNat+1) 0 (2*s) (Q++R)).2.1) (by omega) (by omega) (by omega) (by omega) (by omega) r3 c2 (by omega)
     exact ⟨L,d1,d2,d3.trans ((Eqp.app (Eqp.refl _) c3).trans r5)⟩
    ·simp only [decide_eq_false h1,cond_false]
     have:R0=[]:=List.length_eq_zero_iff.1 (by omega)
     subst this
     simp only [List.append_nil] at *
     obtain ⟨L,d1,d2,d3⟩:=stable_l7_ok hlim k Q' b (2*s) (0+Q'.length) ((sort_stable_func_w3_2_l11 x1 s ((x1+2*s).toNat+1) 0 (2*s) (Q++R)).2.1) (by omega) (by omega) (by simp at r6;omega) (by omega) (by omega) r3 s1 (by omega)
     exact ⟨L,d1,d2,d3.trans r5⟩
   ·have h1:¬(Q'.length:Int)+s<x1:=by omega
    simp only [decide_eq_false h1,cond_false]
    obtain ⟨L,d1,d2,d3⟩:=stable_l7_ok hlim k Q' R' (2*s) (0+Q'.length) ((sort_stable_func_w3_2_l11 x1 s ((x1+2*s).toNat+1) 0 (2*s) (Q++R)).2.1) (by omega) (by omega) (by omega) (by omega) (by omega) r3 s1 (by omega)
    exact ⟨L,d1,d2,d3.trans r5⟩
  ·simp only [decide_eq_false hd,Bool.not_false,cond_true]
   refine ⟨_,rfl,?_,Eqp.refl _⟩
   cases hf with
   |nil=>simpa using hr
   |@cons b0 Q1 l0 s0 f1=>
    simp only [List.length_append] at hx
    have h1:Q1=[]:=List.length_eq_zero_iff.1 (by omega)
    have h2:R=[]:=List.length_eq_zero_iff.1 (by omega)
    subst h1;subst h2
    simpa using s0
theorem stable_ok {l:List GKey}{n:Int}(hn:n=l.length)(hlim:64*n+640<4294967296):Srt (sort_stable_func_w3_2 l n)∧Eqp (sort_stable_func_w3_2 l n) l:=by
 unfold sort_stable_func_w3_2
 dsimp only
 obtain ⟨Q,R,r1,r2,r3,r4,r5,r6⟩:=stable_l2_ok (x1:=n) (by omega) (n.toNat+21) [] l 0 20 rfl rfl (by omega) (by omega)
 simp only [List.nil_append] at r1 r2
 rw [r1,r2]
 obtain ⟨M,q1,q2,q3⟩:=insertion_ok (P:=Q) (M:=R) (T:=[]) (a:=0+Q.length) (b:=n) (by omega) (by omega) (by omega)
 simp only [List.append_nil] at q1
 have lM:M.length=R.length:=by
  have:=congrArg List.length q1
  rw [insertionSort_len] at this
  simp at this;omega
 rw [q1]
 obtain ⟨L,d1,d2,d3⟩:=stable_l7_ok (x1:=n) hlim (n.toNat+1) Q M 20 (0+Q.length) ((sort_stable_func_w3_2_l2 n (n.toNat+21) 0 20 l).2.1) (by omega) (by omega) (by omega) (by omega) (by omega) r3 q2 (by omega)
 rw [d1]
 exact ⟨d2,d3.trans ((Eqp.app (Eqp.refl _) q3).trans r5)⟩
theorem srt_le1 {l:List GKey}(h:l.length≤1):Srt l:=by
 match l,h with
 |[],_=>exact List.Pairwise.nil
 |[x],_=>exact List.pairwise_singleton _ _
theorem Order_ok {l:List GKey}(hlim:l.length≤1048576):Srt (key_Order l)∧Eqp (key_Order l) l:=by
 unfold key_Order
 dsimp only
 rw [mLen_eq,qiEq,qiEq]
 by_cases h:l.length≤1
 ·have:(decide ((l.length:Int)=0)||decide ((l.length:Int)=1))=true:=by
   rw [← Bool.decide_or];exact decide_eq_true (by omega)
  rw [this]
  exact ⟨srt_le1 h,Eqp.refl _⟩
 ·have:(decide ((l.length:Int)=0)||decide ((l.length:Int)=1))=false:=by
   rw [← Bool.decide_or];exact decide_eq_false (by omega)
  rw [this]
  have hs:(sort_stable_func_w3_2 l (l.length:Int)).length=l.length:=stable_len
  have:((sort_stable_func_w3_2 l (l.length:Int)).drop 0).take ((l.length:Int).toNat-0)=sort_stable_func_w3_2 l l.length:=by
   rw [List.drop_zero];exact List.take_of_length_le (by omega)
  simp only [cond_false]
  rw [this]
  exact stable_ok rfl (by omega)
end Go.Fw
end
section
set_option linter.unusedVariables false
set_option linter.unusedSimpArgs false
set_option linter.unusedSectionVars false
namespace Go.Fw
set_option linter.unusedVariables false
set_option linter.unusedSimpArgs false
def pv : List UInt8→Int→Option Int
 |[],a=>some a
 |c::r,a=>if c.toNat<48∨c.toNat > 57 then none else pv r (10*a+(c.toNat-48))
def tD (n:Nat):List UInt8:=
 if n<10 then [UInt8.ofNat (48+n)] else if n<100 then [UInt8.ofNat (48+n / 10),UInt8.ofNat (48+n % 10)]
 else if n<1000 then [UInt8.ofNat (48+n / 100),UInt8.ofNat (48+n / 10 % 10),UInt8.ofNat (48+n % 10)]
 else [UInt8.ofNat (48+n / 1000),UInt8.ofNat (48+n / 100 % 10),UInt8.ofNat (48+n / 10 % 10),UInt8.ofNat (48+n % 10)]
theorem tens_D : ∀n<1024,ref07_Tens ((n:Nat):Int)=tD n:=by decide +kernel
theorem idx_tens : ∀n<1024,key_Index ⟨ref07_Tens ((n:Nat):Int),0⟩=(((n:Nat):Int),true):=by decide +kernel
theorem idx_l1_sym {s:List UInt8}{a b:Int}:∀(n:Nat) {u1:Int} {u2:Bool} {u3 u4:Int},key_Index_l1 ⟨s,a⟩ n u1 u2 u3 u4=key_Index_l1 ⟨s,b⟩ n u1 u2 u3 u4
 |0,_,_,_,_=>rfl
 |n+1,u1,u2,u3,u4=>by
  simp only [key_Index_l1]
  rw [idx_l1_sym (a:=a) (b:=b) n]
theorem idx_sym {s:List UInt8}{a:Int}(h:¬a > 0):key_Index ⟨s,a⟩=key_Index ⟨s,0⟩:=by
 unfold key_Index
 dsimp only
 rw [idx_l1_sym (a:=a) (b:=0),decide_eq_false h,decide_eq_false (by omega:¬(0:Int) > 0)]
theorem idx_sym1 {k:GKey}(h:k.Sym > 0):key_Index k=(0,false):=by
 unfold key_Index
 dsimp only
 rw [decide_eq_true h];rfl
theorem wsub {c:UInt8}(h:48≤c.toNat):IntKind.wrap .i64 (iSub .u8 ((c.toNat:Nat):Int) 48)=c.toNat-48:=by
 have hc:=c.toNat_lt
 have e:iSub .u8 ((c.toNat:Nat):Int) 48=c.toNat-48:=by
  show (if (false&&decide (((c.toNat:Int)-48) % 2 ^ 8≥2 ^ (8-1)))=true then ((c.toNat:Int)-48) % 2 ^ 8-2 ^ 8 else ((c.toNat:Int)-48) % 2 ^ 8)=_
  simp;omega
 rw [e]
 have:=iAddC (a:=(c.toNat:Int)-48) (b:=0) (by omega) (by omega)
 unfold iAdd at this
 simpa using this
theorem sLen_eq (s:List UInt8):sLen s=(s.length:Int):=rfl
theorem idx_l1 {s:List UInt8}{b:Int}(hs:s.length≤4):∀(n j:Nat) {u1:Int} {u2:Bool} {a:Int},j≤s.length→s.length-j<n→0≤a→((j=0∧a≤0)∨(j=1∧a≤9)∨(j=2∧a≤99)∨(j=3∧a≤999)∨(j=4∧a≤9999))→
  ∃r,key_Index_l1 ⟨s,b⟩ n u1 u2 a j=r∧(match pv (s.drop j) a with|none=>r.1=false∧r.2.2.2.2=(0,false)|some v=>r.1=true∧r.2.2.2.1=v)
 |0,j,_,_,a,hj,hn,_,_=>by omega
 |n+1,j,u1,u2,a,hj,hn,h0,h1=>by
  simp only [key_Index_l1,Int.toNat_natCast]
  by_cases hlt:j<s.length
  ·have e:s.drop j=s.getD j 0::s.drop (j+1):=by
    rw [List.drop_eq_getElem_cons hlt];simp [List.getD_eq_getElem?_getD,hlt]
   rw [e]
   have hd:decide ((j:Int)<(sLen s:Int))=true:=decide_eq_true (show (j:Int)<(s.length:Int) by omega)
   simp only [hd,Bool.not_true,cond_false,pv]
   obtain ⟨c,hcc⟩:∃c,s.getD j 0=c:=⟨_,rfl⟩
   simp only [hcc]
   by_cases hc:c.toNat<48∨c.toNat > 57
   ·have:(decide (((c.toNat:Nat):Int)<48)||decide (((c.toNat:Nat):Int) > 57))=true:=by
     rw [← Bool.decide_or];exact decide_eq_true (by omega)
    simp only [this,cond_true,hc,if_true]
    exact ⟨_,rfl,rfl,rfl⟩
   ·have:(decide (((c.toNat:Nat):Int)<48)||decide (((c.toNat:Nat):Int) > 57))=false:=by
     rw [← Bool.decide_or];exact decide_eq_false (by omega)
    simp only [this,cond_false,hc,if_false]
    rw [wsub (by omega),iMulC (by omega) (by omega),iAddC (by omega) (by omega),qAdd (by omega),show a*10+(↑c.toNat-48)=10*a+(↑c.toNat-48) by omega]
    exact idx_l1 hs n (j+1) (by omega) (by omega) (by omega) (by omega)
  ·rw [List.drop_eq_nil_iff.2 (by omega)]
   have hd:decide ((j:Int)<(sLen s:Int))=false:=decide_eq_false (show ¬(j:Int)<(s.length:Int) by omega)
   simp only [hd,Bool.not_false,cond_true,pv]
   exact ⟨_,rfl,rfl,rfl⟩
theorem idx_eq {s:List UInt8}:key_Index ⟨s,0⟩=if s=[]∨s.length > 4∨(s.length > 1∧(s.getD 0 0).toNat=48) then (0,false) else match pv s 0 with|none=>(0,false)|some v=>if v≥1024 then (0,false) else (v,true):=by
 unfold key_Index
 dsimp only
 have hg:(((decide ((0:Int) > 0)||sEq s [])||decide ((sLen s:Int) > 4))||(decide ((sLen s:Int) > 1)&&iEq (((s.getD (0:Int).toNat 0).toNat:Nat):Int) 48))=decide (s=[]∨s.length > 4∨(s.length > 1∧(s.getD 0 0).toNat=48)):=by
  rw [qsEq,qiEq,sLen_eq,← Bool.decide_or,← Bool.decide_or,← Bool.decide_and,← Bool.decide_or]
  apply decide_eq_decide.2
  have:(0:Int).toNat=0:=rfl
  rw [this]
  constructor
  ·rintro (((h|h)|h)|⟨h1,h2⟩)
   ·omega
   ·exact Or.inl h
   ·exact Or.inr (Or.inl (by omega))
   ·exact Or.inr (Or.inr ⟨by omega,by omega⟩)
  ·rintro (h|h|⟨h1,h2⟩)
   ·exact Or.inl (Or.inl (Or.inr h))
   ·exact Or.inl (Or.inr (by omega))
   ·exact Or.inr ⟨by omega,by omega⟩
 rw [hg]
 by_cases h:s=[]∨s.length > 4∨(s.length > 1∧(s.getD 0 0).toNat=48)
 ·rw [if_pos h,decide_eq_true h];rfl
 ·rw [if_neg h,decide_eq_false h]
  obtain ⟨r,hr,hm⟩:=idx_l1 (s:=s) (b:=0) (by omega) ((sLen s:Int).toNat+1) 0 (u1:=0) (u2:=false) (a:=0) (by omega) (by rw [sLen_eq];omega) (by omega) (by omega)
  simp only [show (((0:Nat):Int))=0 from rfl,List.drop_zero] at hr hm
  rw [hr]
  cases hp:pv s 0 with
  |none=>
   rw [hp] at hm
   rw [qsel,hm.1,hm.2];rfl
  |some v=>
   rw [hp] at hm
   rw [qsel,hm.1,hm.2]
   by_cases hv:v≥1024<;>simp [hv]
theorem u8eq {a:UInt8}{n:Nat}(h:a.toNat=n):UInt8.ofNat n=a:=by subst h;simp
theorem idx_back {s:List UInt8}{v:Int}(h:key_Index ⟨s,0⟩=(v,true)):∃n:Nat,v=n∧n<1024∧ref07_Tens (n:Int)=s:=by
 rw [idx_eq] at h
 split at h
 ·cases h
 rename_i hg
 cases hp:pv s 0 with
 |none=>rw [hp] at h;cases h
 |some w=>
  rw [hp] at h
  simp only at h
  split at h
  ·cases h
  rename_i hw
  simp only [Prod.mk.injEq,and_true] at h
  subst h
  match s,hg,hp with
  |[],hg,hp=>exact absurd (Or.inl rfl) hg
  |[a],hg,hp=>
   simp only [pv] at hp
   split at hp
   ·cases hp
   simp only [Option.some.injEq] at hp
   refine ⟨a.toNat-48,by omega,by omega,?_⟩
   rw [tens_D _ (by omega)]
   unfold tD
   rw [if_pos (by omega),u8eq (a:=a) (by omega)]
  |[a,b],hg,hp=>
   simp only [pv] at hp
   split at hp
   ·cases hp
   split at hp
   ·cases hp
   simp only [Option.some.injEq] at hp
   simp at hg
   refine ⟨10*(a.toNat-48)+(b.toNat-48),by omega,by omega,?_⟩
   rw [tens_D _ (by omega)]
   unfold tD
   rw [if_neg (by omega),if_pos (by omega),u8eq (a:=a) (by omega),u8eq (a:=b) (by omega)]
  |[a,b,c],hg,hp=>
   simp only [pv] at hp
   split at hp
   ·cases hp
   split at hp
   ·cases hp
   split at hp
   ·cases hp
   simp only [Option.some.injEq] at hp
   simp at hg
   refine ⟨100*(a.toNat-48)+10*(b.toNat-48)+(c.toNat-48),by omega,by omega,?_⟩
   rw [tens_D _ (by omega)]
   unfold tD
   rw [if_neg (by omega),if_neg (by omega),if_pos (by omega),u8eq (a:=a) (by omega),u8eq (a:=b) (by omega),u8eq (a:=c) (by omega)]
  |[a,b,c,d],hg,hp=>
   simp only [pv] at hp
   split at hp
   ·cases hp
   split at hp
   ·cases hp
   split at hp
   ·cases hp
   split at hp
   ·cases hp
   simp only [Option.some.injEq] at hp
   simp at hg
   refine ⟨1000*(a.toNat-48)+100*(b.toNat-48)+10*(c.toNat-48)+(d.toNat-48),by omega,by omega,?_⟩
   rw [tens_D _ (by omega)]
   unfold tD
   rw [if_neg (by omega),if_neg (by omega),if_neg (by omega),u8eq (a:=a) (by omega),u8eq (a:=b) (by omega),u8eq (a:=c) (by omega),u8eq (a:=d) (by omega)]
  |a::b::c::d::e::r,hg,hp=>exact absurd (Or.inr (Or.inl (by simp))) hg
end Go.Fw
end
section
set_option linter.unusedVariables false
set_option linter.unusedSimpArgs false
set_option linter.unusedSectionVars false
namespace Go.Fw
set_option linter.unusedVariables false
set_option linter.unusedSimpArgs false
theorem idx_false {s:List UInt8}{x:Int}(h:key_Index ⟨s,0⟩=(x,false)):x=0:=by
 rw [idx_eq] at h
 split at h
 ·cases h;rfl
 ·split at h
  ·cases h;rfl
  ·split at h
   ·cases h;rfl
   ·cases h
theorem rIdx_l1 {k:GKey}:∀(n j:Nat) {u1:Int} {u2:Bool},j≤1024→1024-j<n→(∀i<j,ref07_Tens ((i:Nat):Int)≠k.Str)→
  ∃r,ref08_Index_l1 k n u1 u2 j=r∧((r.1=false∧r.2.2.2.2=true∧∃m:Nat,m<1024∧r.2.2.2.1=m∧ref07_Tens (m:Int)=k.Str)∨(r.1=true∧∀i<1024,ref07_Tens ((i:Nat):Int)≠k.Str))
 |0,j,_,_,hj,hn,hm=>by omega
 |n+1,j,u1,u2,hj,hn,hm=>by
  simp only [ref08_Index_l1]
  by_cases hlt:j<1024
  ·have hd:decide ((j:Int)<1024)=true:=decide_eq_true (by omega)
   simp only [hd,Bool.not_true,cond_false,qsEq]
   by_cases he:ref07_Tens (j:Int)=k.Str
   ·simp only [decide_eq_true he,cond_true]
    exact ⟨_,rfl,Or.inl ⟨rfl,rfl,j,hlt,rfl,he⟩⟩
   ·simp only [decide_eq_false he,cond_false,qAdd (show j≤4294967296 by omega)]
    exact rIdx_l1 n (j+1) (by omega) (by omega) (fun i hi=>by
     by_cases h:i=j
     ·subst h;exact he
     ·exact hm i (by omega))
  ·have hd:decide ((j:Int)<1024)=false:=decide_eq_false (by omega)
   simp only [hd,Bool.not_false,cond_true]
   exact ⟨_,rfl,Or.inr ⟨rfl,fun i hi=>hm i (by omega)⟩⟩
theorem rIdx_eq (k:GKey):ref08_Index k=key_Index k:=by
 by_cases hs:k.Sym > 0
 ·rw [idx_sym1 hs]
  unfold ref08_Index
  dsimp only
  rw [decide_eq_true hs];rfl
 obtain ⟨s,a⟩:=k
 rw [idx_sym hs]
 by_cases hl:s.length > 4
 ·rw [idx_eq,if_pos (Or.inr (Or.inl hl))]
  unfold ref08_Index
  dsimp only
  have:decide ((sLen s:Int) > 4)=true:=decide_eq_true (show (s.length:Int) > 4 by omega)
  rw [this,Bool.or_true];rfl
 unfold ref08_Index
 dsimp only
 have h1:decide ((sLen s:Int) > 4)=false:=decide_eq_false (show ¬(s.length:Int) > 4 by omega)
 have h2:decide (a > 0)=false:=decide_eq_false hs
 rw [h1,h2]
 obtain ⟨r,hr,hc⟩:=rIdx_l1 (k:=⟨s,a⟩) ((1024:Int).toNat+1) 0 (u1:=0) (u2:=false) (by omega) (by show 1024-0<1025;omega) (fun i hi=>by omega)
 simp only [show (((0:Nat):Int))=0 from rfl] at hr
 rw [hr]
 rcases hc with ⟨c1,c2,m,c3,c4,c5⟩|⟨c1,c2⟩
 ·simp only at c5
  rw [qsel,c1,c2,c4,← c5,idx_tens m c3];rfl
 ·rw [qsel,c1]
  generalize hk:key_Index ⟨s,0⟩=x
  obtain ⟨v,b⟩:=x
  cases b with
  |true=>
   obtain ⟨m,q1,q2,q3⟩:=idx_back hk
   exact absurd q3 (c2 m q2)
  |false=>rw [idx_false hk];rfl
def isI (k:GKey):Bool:=(key_Index k).2
def num (k:GKey):Int:=(key_Index k).1
theorem isI_sym {k:GKey}(h:isI k=true):¬k.Sym > 0:=by
 intro hs;unfold isI at h;rw [idx_sym1 hs] at h;cases h
theorem place_eq (k:GKey):key_place k=if isI k=true then (0,num k) else if k.Sym > 0 then (2,0) else (1,0):=by
 unfold key_place isI num
 dsimp only
 simp only [Bool.cond_eq_ite,decide_eq_true_eq]
theorem ltK_num {a b:GKey}(ha:isI a=true)(hb:isI b=true):ltK a b=decide (num a<num b):=by
 rw [Bool.eq_iff_iff,ltK_iff,place_eq,place_eq,if_pos ha,if_pos hb,decide_eq_true_eq]
 simp
theorem l6_ok {v5:Int×Bool}{T:List GKey}:∀(n:Nat) (S:List GKey) (u:Int),u=S.length→S.length<n→S.length≤4294967296→(S.Pairwise fun a b=>num a≤num b)→
  ∃S1 S2,S=S1++S2∧ref08_Order_l6 ((S++T).map num) v5 n u=S1.length∧(∀y∈S1,num y≤v5.1)∧(∀y∈S2,v5.1<num y)
 |0,S,u,hu,hn,hl,hs=>by omega
 |n+1,S,u,hu,hn,hl,hs=>by
  simp only [ref08_Order_l6]
  rcases List.eq_nil_or_concat S with rfl|⟨S',y,rfl⟩
  ·have hd:decide (u > 0)=false:=decide_eq_false (by simp at hu;omega)
   refine ⟨[],[],rfl,?_,by simp,by simp⟩
   simp [hd];simpa using hu
  ·simp only [List.concat_eq_append,List.length_append,List.length_cons,List.length_nil] at *
   have hd:decide (u > 0)=true:=decide_eq_true (by omega)
   have e1:iSub .i64 u 1=u-1:=iSubC (by omega) (by omega)
   have g:((S'++[y]++T).map num).getD (u-1).toNat default=num y:=by
    rw [show (S'++[y]++T).map num=S'.map num++num y::T.map num by simp];exact at_mid (by simp;omega)
   simp only [hd,e1,g,Bool.true_and]
   by_cases hy:num y > v5.1
   ·simp only [decide_eq_true hy,Bool.not_true,cond_false]
    obtain ⟨S1,S2,q1,q2,q3,q4⟩:=l6_ok (v5:=v5) (T:=y::T) n S' (u-1) (by omega) (by omega) (by omega) (List.pairwise_append.1 hs).1
    refine ⟨S1,S2++[y],by rw [q1];simp,by rw [← q2];simp,q3,fun z hz=>?_⟩
    rcases List.mem_append.1 hz with hz|hz
    ·exact q4 z hz
    ·simp at hz;subst hz;exact hy
   ·simp only [decide_eq_false hy,Bool.not_false,cond_true]
    refine ⟨S'++[y],[],by simp,by simp;omega,fun z hz=>?_,by simp⟩
    rcases List.mem_append.1 hz with hz|hz
    ·have:=(List.pairwise_append.1 hs).2.2 z hz y (by simp);omega
    ·simp at hz;subst hz;omega
theorem l9_ok {r:Int}:∀(n:Nat) (P S T:List GKey) (x:GKey) (P' S' T':List Int) (x':Int) (u:Int),r=P.length→u=P.length+S.length→P'.length=P.length→S'.length=S.length→u<n→u≤4294967296→
  ∃y y',(ref08_Order_l9 r n u (P++S++x::T) (P'++S'++x'::T')).2.1=P++y::(S++T)∧(ref08_Order_l9 r n u (P++S++x::T) (P'++S'++x'::T')).2.2=P'++y'::(S'++T')
 |0,P,S,T,x,P',S',T',x',u,hr,hu,hp,hs,hn,hl=>by omega
 |n+1,P,S,T,x,P',S',T',x',u,hr,hu,hp,hs,hn,hl=>by
  simp only [ref08_Order_l9]
  rcases List.eq_nil_or_concat S with rfl|⟨S0,y,rfl⟩
  ·have:S'=[]:=List.length_eq_zero_iff.1 (by simpa using hs)
   subst this
   have hd:decide (u > r)=false:=decide_eq_false (by simp at hu;omega)
   exact ⟨x,x',by simp [hd],by simp [hd]⟩
  ·rcases List.eq_nil_or_concat S' with rfl|⟨S0',y',rfl⟩
   ·simp at hs
   simp only [List.concat_eq_append,List.length_append,List.length_cons,List.length_nil] at *
   have hd:decide (u > r)=true:=decide_eq_true (by omega)
   have e1:iSub .i64 u 1=u-1:=iSubC (by omega) (by omega)
   have g:(P++(S0++[y])++x::T).getD (u-1).toNat default=y:=by
    rw [show P++(S0++[y])++x::T=(P++S0)++y::(x::T) by simp];exact at_mid (by simp;omega)
   have g':(P'++(S0'++[y'])++x'::T').getD (u-1).toNat default=y':=by
    rw [show P'++(S0'++[y'])++x'::T'=(P'++S0')++y'::(x'::T') by simp];exact at_mid (by simp;omega)
   simp only [hd,e1,g,g',Bool.not_true,cond_false]
   rw [set_mid (by simp;omega),set_mid (by simp;omega)]
   obtain ⟨z,z',q1,q2⟩:=l9_ok (r:=r) n P S0 (y::T) y P' S0' (y'::T') y' (u-1) hr (by omega) hp (by omega) (by omega) (by omega)
   refine ⟨z,z',?_,?_⟩
   ·rw [show P++(S0++[y])++y::T=P++S0++y::(y::T) by simp,show P'++(S0'++[y'])++y'::T'=P'++S0'++y'::(y'::T') by simp,q1];simp
   ·rw [show P++(S0++[y])++y::T=P++S0++y::(y::T) by simp,show P'++(S0'++[y'])++y'::T'=P'++S0'++y'::(y'::T') by simp,q2];simp
end Go.Fw
end
section
set_option linter.unusedVariables false
set_option linter.unusedSimpArgs false
set_option linter.unusedSectionVars false
namespace Go.Fw
set_option linter.unusedVariables false
set_option linter.unusedSimpArgs false
theorem at_set {α:Type}{A B:List α}{x y:α}{i:Int}(h:i=A.length):(A++x::B).set i.toNat y=A++y::B:=set_mid h
theorem srt_num {l:List GKey}(hi:∀k∈l,isI k=true)(hs:Srt l):l.Pairwise fun a b=>num a≤num b:=by
 refine List.Pairwise.imp_of_mem (fun {a b} ha hb h=>?_) hs
 rw [ltK_num (hi b hb) (hi a ha)] at h
 have:=of_decide_eq_false h
 omega
theorem rO_l1 {x0:List GKey}(hx:x0.length≤1048576):∀(n j:Nat) (u:List GKey),j≤x0.length→x0.length-j<n→u.length≤j→(∀k∈u,isI k=true)→Srt u→Eqp u ((x0.take j).filter isI)→
  ∃r,ref08_Order_l1 x0 n u (u.map num) j=r∧(∀k∈r,isI k=true)∧Srt r∧Eqp r (x0.filter isI)
 |0,j,u,hj,hn,hu,hi,hs,he=>by omega
 |n+1,j,u,hj,hn,hu,hi,hs,he=>by
  simp only [ref08_Order_l1,q_lt,Int.toNat_natCast,rIdx_eq]
  by_cases hlt:j<x0.length
  ·simp only [decide_eq_true hlt,Bool.not_true,cond_false,qAdd (show j≤4294967296 by omega)]
   have ht:=q_take x0 j hlt
   generalize x0.getD j default=k at *
   cases hk:isI k with
   |false=>
    have hk':(key_Index k).2=false:=hk
    simp only [hk',Bool.not_false,cond_true]
    refine rO_l1 hx n (j+1) u (by omega) (by omega) (by omega) hi hs ?_
    rw [ht,List.filter_append]
    simpa [hk] using he
   |true=>
    have hk':(key_Index k).2=true:=hk
    simp only [hk',Bool.not_true,cond_false]
    obtain ⟨S1,S2,rfl,q2,q3,q4⟩:=l6_ok (v5:=key_Index k) (T:=[]) (u.length+1) u (mLen GKey.enc u) (mLen_eq _ _) (by omega) (by omega) (srt_num hi hs)
    rw [List.append_nil] at q2
    rw [q2,app1_len (by omega)]
    obtain ⟨y,y',w1,w2⟩:=l9_ok (r:=(S1.length:Int)) ((S1++S2).length+1) S1 S2 [] (GKey.mk [] 0) (S1.map num) (S2.map num) [] 0 ((S1++S2).length:Int) rfl (by simp) (by simp) (by simp) (by omega) (by omega)
    rw [show (S1++S2).map num++[0]=S1.map num++S2.map num++[0] by simp,w1,w2]
    rw [at_set (by omega),at_set (by simp)]
    rw [show List.map num S1++(key_Index k).1::(List.map num S2++[])=(S1++k::(S2++[])).map num by simp [num]]
    have m1:∀y∈S1,ltK k y=false:=fun y hy=>by
     rw [ltK_num hk (hi y (by simp [hy]))]
     have:=q3 y hy
     exact decide_eq_false (by show ¬(key_Index k).1<num y;omega)
    have m2:∀y∈S2,ltK k y=true:=fun y hy=>by
     rw [ltK_num hk (hi y (by simp [hy]))]
     exact decide_eq_true (q4 y hy)
    refine rO_l1 hx n (j+1) (S1++k::(S2++[])) (by omega) (by omega) (by simp at hu ⊢;omega) ?_ (by simpa using ins_srt hs m1 m2) ?_
    ·intro z hz
     simp only [List.append_nil,List.mem_append,List.mem_cons] at hz
     rcases hz with hz|rfl|hz
     ·exact hi z (by simp [hz])
     ·exact hk
     ·exact hi z (by simp [hz])
    ·rw [ht,List.filter_append,List.append_nil]
     refine (ins_eqp m2).trans (Eqp.app he ?_)
     simp [hk]
     exact Eqp.refl _
  ·simp only [decide_eq_false hlt,Bool.not_false,cond_true]
   rw [List.take_of_length_le (by omega)] at he
   exact ⟨u,rfl,hi,hs,he⟩
theorem rO_l2 {x0:List GKey}(hx:x0.length≤1048576):∀(n j:Nat) (u:List GKey),j≤x0.length→x0.length-j<n→
  ref08_Order_l2 x0 n u j=u++(x0.drop j).filter (fun k=>!isI k&&decide (k.Sym≤0))
 |0,j,u,hj,hn=>by omega
 |n+1,j,u,hj,hn=>by
  simp only [ref08_Order_l2,q_lt,Int.toNat_natCast,rIdx_eq]
  by_cases hlt:j<x0.length
  ·rw [q_drop x0 j hlt]
   simp only [decide_eq_true hlt,Bool.not_true,cond_false,qAdd (show j≤4294967296 by omega)]
   rw [rO_l2 hx n (j+1) _ (by omega) (by omega),rO_l2 hx n (j+1) _ (by omega) (by omega),List.filter_cons]
   show (bif !isI (x0.getD j default)&&decide ((x0.getD j default).Sym≤0) then _ else _)=_
   cases (!isI (x0.getD j default)&&decide ((x0.getD j default).Sym≤0))<;>simp
  ·simp only [decide_eq_false hlt,Bool.not_false,cond_true]
   rw [List.drop_eq_nil_iff.2 (by omega)];simp
theorem rO_l3 {x0:List GKey}(hx:x0.length≤1048576):∀(n j:Nat) (u:List GKey),j≤x0.length→x0.length-j<n→
  ref08_Order_l3 x0 n u j=u++(x0.drop j).filter (fun k=>decide (k.Sym > 0))
 |0,j,u,hj,hn=>by omega
 |n+1,j,u,hj,hn=>by
  simp only [ref08_Order_l3,q_lt,Int.toNat_natCast]
  by_cases hlt:j<x0.length
  ·rw [q_drop x0 j hlt]
   simp only [decide_eq_true hlt,Bool.not_true,cond_false,qAdd (show j≤4294967296 by omega)]
   rw [rO_l3 hx n (j+1) _ (by omega) (by omega),rO_l3 hx n (j+1) _ (by omega) (by omega),List.filter_cons]
   cases decide ((x0.getD j default).Sym > 0)<;>simp
  ·simp only [decide_eq_false hlt,Bool.not_false,cond_true]
   rw [List.drop_eq_nil_iff.2 (by omega)];simp
theorem srt_same {l:List GKey}{p:Int×Int}(h:∀k∈l,key_place k=p):Srt l:=by
 refine List.Pairwise.imp_of_mem (R:=fun _ _=>True) (fun {a b} ha hb _=>?_) (List.pairwise_of_forall (fun _ _=>trivial))
 rw [ltK_f,h a ha,h b hb];omega
theorem rOrder_ok {x0:List GKey}(hx:x0.length≤1048576):Srt (ref08_Order x0)∧Eqp (ref08_Order x0) x0:=by
 unfold ref08_Order
 dsimp only
 obtain ⟨r,hr,hi,hs,he⟩:=rO_l1 hx (x0.length+1) 0 [] (by omega) (by omega) (by simp) (by simp) List.Pairwise.nil (by simpa using Eqp.refl _)
 simp only [show (((0:Nat):Int))=0 from rfl,List.map_nil] at hr
 rw [hr]
 have h2:=rO_l2 hx (x0.length+1) 0 r (by omega) (by omega)
 simp only [show (((0:Nat):Int))=0 from rfl,List.drop_zero] at h2
 rw [h2]
 have h3:=rO_l3 hx (x0.length+1) 0 (r++x0.filter (fun k=>!isI k&&decide (k.Sym≤0))) (by omega) (by omega)
 simp only [show (((0:Nat):Int))=0 from rfl,List.drop_zero] at h3
 rw [h3]
 have p1:∀k∈x0.filter (fun k=>!isI k&&decide (k.Sym≤0)),key_place k=(1,0):=by
  intro k hk
  have:=(List.mem_filter.1 hk).2
  simp only [Bool.and_eq_true,Bool.not_eq_true',decide_eq_true_eq] at this
  rw [place_eq,if_neg (by rw [this.1];simp),if_neg (by omega)]
 have p2:∀k∈x0.filter (fun k=>decide (k.Sym > 0)),key_place k=(2,0):=by
  intro k hk
  have:=of_decide_eq_true (List.mem_filter.1 hk).2
  rw [place_eq,if_neg (fun h=>isI_sym h this),if_pos this]
 have p0:∀k∈r,key_place k=(0,num k):=fun k hk=>by rw [place_eq,if_pos (hi k hk)]
 refine ⟨srt_app (srt_app hs (srt_same p1) fun x hx y hy=>?_) (srt_same p2) fun x hx y hy=>?_,fun p=>?_⟩
 ·rw [ltK_f,p0 x hx,p1 y hy];simp
 ·rcases List.mem_append.1 hx with hx|hx
  ·rw [ltK_f,p0 x hx,p2 y hy];simp
  ·rw [ltK_f,p1 x hx,p2 y hy];simp
 ·rw [List.filter_append,List.filter_append,he p,List.filter_filter,List.filter_filter,List.filter_filter]
  by_cases h0:p.1=0
  ·have e1:x0.filter (fun k=>decide (key_place k=p)&&isI k)=x0.filter (fun k=>decide (key_place k=p)):=by
    refine List.filter_congr fun k hk=>?_
    by_cases hp:key_place k=p
    ·have:isI k=true:=by
      cases hk:isI k with
      |true=>rfl
      |false=>
       rw [place_eq,if_neg (by rw [hk];simp)] at hp
       split at hp<;>(rw [← hp] at h0;simp at h0)
     simp [hp,this]
    ·simp [hp]
   have e2:x0.filter (fun k=>decide (key_place k=p)&&(!isI k&&decide (k.Sym≤0)))=[]:=by
    rw [List.filter_eq_nil_iff];intro k hk hc
    simp only [Bool.and_eq_true,decide_eq_true_eq] at hc
    have:=p1 k (List.mem_filter.2 ⟨hk,by simpa using hc.2⟩)
    rw [hc.1] at this;rw [this] at h0;simp at h0
   have e3:x0.filter (fun k=>decide (key_place k=p)&&decide (k.Sym > 0))=[]:=by
    rw [List.filter_eq_nil_iff];intro k hk hc
    simp only [Bool.and_eq_true,decide_eq_true_eq] at hc
    have:=p2 k (List.mem_filter.2 ⟨hk,by simpa using hc.2⟩)
    rw [hc.1] at this;rw [this] at h0;simp at h0
   rw [e1,e2,e3];simp
  ·have e1:x0.filter (fun k=>decide (key_place k=p)&&isI k)=[]:=by
    rw [List.filter_eq_nil_iff];intro k hk hc
    simp only [Bool.and_eq_true,decide_eq_true_eq] at hc
    rw [place_eq,if_pos hc.2] at hc
    rw [← hc.1] at h0;simp at h0
   rw [e1]
   by_cases h1:p.1=1
   ·have e2:x0.filter (fun k=>decide (key_place k=p)&&(!isI k&&decide (k.Sym≤0)))=x0.filter (fun k=>decide (key_place k=p)):=by
     refine List.filter_congr fun k hk=>?_
     by_cases hp:key_place k=p
     ·rw [place_eq] at hp
      split at hp
      ·rw [← hp] at h1;simp at h1
      ·split at hp
       ·rw [← hp] at h1;simp at h1
       ·rename_i a b
        simp only [Bool.not_eq_true] at a
        have:k.Sym≤0:=by omega
        simp [a,this]
     ·simp [hp]
    have e3:x0.filter (fun k=>decide (key_place k=p)&&decide (k.Sym > 0))=[]:=by
     rw [List.filter_eq_nil_iff];intro k hk hc
     simp only [Bool.and_eq_true,decide_eq_true_eq] at hc
     have:=p2 k (List.mem_filter.2 ⟨hk,by simpa using hc.2⟩)
     rw [hc.1] at this;rw [this] at h1;simp at h1
    rw [e2,e3];simp
   ·have e2:x0.filter (fun k=>decide (key_place k=p)&&(!isI k&&decide (k.Sym≤0)))=[]:=by
     rw [List.filter_eq_nil_iff];intro k hk hc
     simp only [Bool.and_eq_true,decide_eq_true_eq] at hc
     have:=p1 k (List.mem_filter.2 ⟨hk,by simpa using hc.2⟩)
     rw [hc.1] at this;rw [this] at h1;simp at h1
    have e3:x0.filter (fun k=>decide (key_place k=p)&&decide (k.Sym > 0))=x0.filter (fun k=>decide (key_place k=p)):=by
     refine List.filter_congr fun k hk=>?_
     by_cases hp:key_place k=p
     ·rw [place_eq] at hp
      split at hp
      ·rw [← hp] at h0;simp at h0
      ·split at hp
       ·rename_i b
        have:k.Sym > 0:=b
        simp [this]
       ·rw [← hp] at h1;simp at h1
     ·simp [hp]
    rw [e2,e3];simp
theorem rSame_l2 {a b:List GKey}(hl:a.length=b.length)(hb:a.length≤4294967296):∀(n j:Nat) {u:Bool},j≤a.length→a.length-j<n→
  (bif !(iEq (selB (ref08_Same_l2 a b n u j).1) 0) then (ref08_Same_l2 a b n u j).2.2 else true)=decide (a.drop j=b.drop j)
 |0,j,u,hj,hn=>by omega
 |n+1,j,u,hj,hn=>by
  simp only [ref08_Same_l2,q_lt,Int.toNat_natCast]
  by_cases hlt:j<a.length
  ·rw [q_drop a j hlt,q_drop b j (by omega)]
   simp only [decide_eq_true hlt,Bool.not_true,cond_false,key_eq,qAdd (show j≤4294967296 by omega)]
   by_cases he:a.getD j default=b.getD j default
   ·simp only [decide_eq_true he,Bool.not_true,cond_false]
    rw [rSame_l2 hl hb n (j+1) (by omega) (by omega)]
    apply decide_eq_decide.2
    rw [List.cons.injEq]
    exact ⟨fun h=>⟨he,h⟩,fun h=>h.2⟩
   ·simp only [decide_eq_false he,Bool.not_false,cond_true]
    rw [qsel]
    have:¬(a.getD j default::a.drop (j+1)=b.getD j default::b.drop (j+1)):=fun h=>he (List.cons.inj h).1
    rw [decide_eq_false this];rfl
  ·simp only [decide_eq_false hlt,Bool.not_false,cond_true]
   rw [qsel,List.drop_eq_nil_iff.2 (by omega),List.drop_eq_nil_iff.2 (by omega)]
   simp
theorem rSame_self {a:List GKey}(hb:a.length≤4294967296):ref08_Same a a=true:=by
 unfold ref08_Same
 dsimp only
 rw [qiNe_self,cond_false]
 have:=rSame_l2 (a:=a) (b:=a) rfl hb (a.length+1) 0 (u:=false) (by omega) (by omega)
 simp only [show (((0:Nat):Int))=0 from rfl] at this
 rw [this];simp
end Go.Fw
end
section
set_option linter.unusedVariables false
set_option linter.unusedSimpArgs false
set_option linter.unusedSectionVars false
namespace Go.Fw
set_option linter.unusedVariables false
set_option linter.unusedSimpArgs false
theorem num_May_eq {x:Nat}(h:x<2 ^ 64):num_May x=ref01_May x:=by
 unfold num_May ref01_May ref01_whole
 dsimp only
 have ht:math_Trunc x=math_archTrunc x:=rfl
 have ha:math_Abs x=x % 9223372036854775808:=abs_eq h
 have hs:math_Signbit x=(rd64 x).neg:=signbit h
 rw [ht,ha,hs,fNe_self,fNe_not x 0,fEq_zero]
 by_cases hn:isNan x=true
 ·simp [hn]
 ·have hn:isNan x=false:=by simpa using hn
  rw [safe_abs x hn,hn]
  cases hx:rd64 x with
  |nan s t=>unfold isNan at hn;rw [hx] at hn;cases hn
  |infinity s=>
   have:(fGe x 14069245235905429503&&fLe x 4845873199050653695)=false:=by
    unfold fGe fLe Ieee.Format.order
    show (((Ieee.Datum.order (rd64 x) _ == _)||(Ieee.Datum.order (rd64 x) _ == _))&&((Ieee.Datum.order (rd64 x) _ == _)||(Ieee.Datum.order (rd64 x) _ == _)))=false
    rw [hx]
    have e1:FloatKind.f64.format.read 4845873199050653695=.number false 9007199254740991 0:=read_safe
    have e2:FloatKind.f64.format.read 14069245235905429503=.number true 9007199254740991 0:=read_nsafe
    rw [e1,e2]
    cases s<;>rfl
   simp [this]
  |number s m i=>
   rw [trunc_same hx]
   simp only [fNe_not,Ieee.Datum.neg]
   cases m with
   |zero=>
    rw [inv_lt hx]
    simp only [Ieee.Datum.isZero]
    generalize (fGe x 14069245235905429503&&fLe x 4845873199050653695)=A
    generalize fEq (FloatKind.f64.nearest (((FloatKind.f64.decode x).toInt .zero).getD 0)) x=B
    cases A<;>cases B<;>cases s<;>rfl
   |succ m=>
    simp only [Ieee.Datum.isZero]
    generalize (fGe x 14069245235905429503&&fLe x 4845873199050653695)=A
    generalize fEq (FloatKind.f64.nearest (((FloatKind.f64.decode x).toInt .zero).getD 0)) x=B
    cases A<;>cases B<;>cases s<;>rfl
theorem num_May_zero : num_May 0=true:=by decide +kernel
theorem num_May_nought {x:Nat}(h:x<2 ^ 64):(fEq x 0&&num_May x)=ref07_nought x:=by
 unfold ref07_nought
 by_cases hz:fEq x 0=true
 ·rw [num_May_eq h]
  rw [fEq_zero] at hz
  cases hx:rd64 x with
  |nan s t=>rw [hx] at hz;cases hz
  |infinity s=>rw [hx] at hz;cases hz
  |number s m i=>
   cases m with
   |succ m=>rw [hx] at hz;cases hz
   |zero=>
    have hn:isNan x=false:=by unfold isNan;rw [hx]
    rw [inv_gt hx]
    unfold ref01_May ref01_whole
    dsimp only
    rw [inv_lt hx,fNe_self,hn]
    have hz':fEq x 0=true:=by rw [fEq_zero,hx];rfl
    have e1:fGe x 14069245235905429503=true:=by
     unfold fGe Ieee.Format.order
     show ((Ieee.Datum.order (rd64 x) (rd64 _) == _)||(Ieee.Datum.order (rd64 x) (rd64 _) == _))=true
     have e:rd64 14069245235905429503=.number true 9007199254740991 0:=read_nsafe
     rw [hx,e]
     simp only [Ieee.Datum.order,cmp_ge,sg0,Ieee.signed,if_true,decide_eq_true_eq]
     have:=Int.natCast_nonneg (9007199254740991 <<< (0-min i 0).toNat)
     generalize ((9007199254740991 <<< (0-min i 0).toNat:Nat):Int)=q at this ⊢
     omega
    have e2:fLe x 4845873199050653695=true:=by
     unfold fLe Ieee.Format.order
     show ((Ieee.Datum.order (rd64 x) (rd64 _) == _)||(Ieee.Datum.order (rd64 x) (rd64 _) == _))=true
     have e:rd64 4845873199050653695=.number false 9007199254740991 0:=read_safe
     rw [hx,e]
     simp only [Ieee.Datum.order,cmp_le,sg0,Ieee.signed,if_true,decide_eq_true_eq,Bool.false_eq_true,if_false]
     have:=Int.natCast_nonneg (9007199254740991 <<< (0-min i 0).toNat)
     generalize ((9007199254740991 <<< (0-min i 0).toNat:Nat):Int)=q at this ⊢
     omega
    have e3:fEq (FloatKind.f64.nearest (((FloatKind.f64.decode x).toInt .zero).getD 0)) x=true:=by
     rw [← trunc_same hx]
     have:math_archTrunc x=FloatKind.f64.format.word s 0:=by
      unfold math_archTrunc FloatKind.decode FloatKind.encode
      show FloatKind.f64.format.write ((rd64 x).integral .zero)=_
      rw [hx]
      simp only [Ieee.Datum.integral,cut_zero,Nat.shiftLeft_eq,Ieee.Format.write,Nat.zero_mul,Nat.zero_div,near_zero]
     rw [this,fEq_comm]
     unfold fEq Ieee.Format.order
     show (Ieee.Datum.order (rd64 x) (rd64 _) == _)=true
     rw [rd_nil,hx]
     simp only [Ieee.Datum.order,cmp_eq,sg0]
     rfl
    rw [e1,e2,fNe_not,e3,hz']
    cases s<;>rfl
 ·have hz:fEq x 0=false:=by simpa using hz
  simp [hz]
def u8 (n:Int):Prop:=0≤n∧n≤255
def GVal.ok (v:GVal):Prop:=u8 v.Kind∧v.Num<2 ^ 64
theorem u8_cases {n:Int}(h:u8 n):n=0∨n=1∨n=2∨n=3∨n=4∨n=5∨n=6∨n=7∨n=8∨n > 8:=by unfold u8 at h;omega
theorem ref01_Same_zero {x:Nat}:ref01_Same x 0=ref07_nought x:=by
 unfold ref01_Same ref07_nought
 rw [fNe_self,fNe_self]
 have h0:isNan 0=false:=by rfl
 rw [h0,fNe_not,fEq_zero]
 cases hx:rd64 x with
 |nan s t=>simp [isNan,hx,Ieee.Datum.isZero]
 |infinity s=>simp [isNan,hx,Ieee.Datum.isZero]
 |number s m i=>
  cases m with
  |succ m=>simp [isNan,hx,Ieee.Datum.isZero]
  |zero=>
   rw [inv_gt hx,inv_zero hx,inv_zero rd_zero]
   have:isNan x=false:=by simp [isNan,hx]
   rw [this]
   cases s<;>rfl
theorem ref01_Same_self (x:Nat):ref01_Same x x=true:=by
 unfold ref01_Same
 rw [fNe_self,fEq_self,fNe_not,fEq_zero]
 cases hn:isNan x
 ·cases hx:rd64 x with
  |nan s t=>simp [isNan,hx] at hn
  |infinity s=>simp [Ieee.Datum.isZero]
  |number s m i=>
   cases m with
   |succ m=>simp [Ieee.Datum.isZero]
   |zero=>rw [inv_zero hx];cases s<;>rfl
 ·rfl
theorem ref07_Alike_self (v:GVal):ref07_Alike v v=true:=by
 unfold ref07_Alike
 simp [ref01_Same_self,iEq,sEq]
theorem value_May_eq {v:GVal}(h:v.ok):value_May v=ref07_May v:=by
 obtain ⟨k,n,s,r⟩:=v
 obtain ⟨hk,hn⟩:=h
 dsimp only at hk hn
 have hN:=num_May_nought hn
 have hM:=num_May_eq hn
 unfold value_May ref07_May
 dsimp only
 have hlen:(sLen s > 4096)=¬(sLen s≤4096):=by simp
 have hr0:∀r:Int,(decide (r<0)=!(iEq r 0||decide (r > 0))):=by
  intro r
  unfold iEq
  by_cases h1:r<0
  ·have h2:¬r=0:=by omega
   have h3:¬r > 0:=by omega
   simp [h1,h2,h3]
  ·by_cases h2:r=0
   · simp [h2]
   · have h3:r > 0:=by omega
     simp [h1,h2,h3]
 rw [← hN,← hM]
 have hse:sEq s []=true→sLen s≤4096:=by
  intro e
  have:s=[]:=of_decide_eq_true e
  subst this
  simp [sLen]
 simp only [hlen,decide_not,hr0,num_May_zero,fNe_not]
 have hz:fEq 0 0=true:=by rfl
 generalize hA:decide (sLen s≤4096)=A
 have hAs:sEq s []=true→A=true:=fun e=>by rw [← hA];exact decide_eq_true (hse e)
 have hr1:iEq r 0=true→decide (r > 0)=false:=fun e=>by
  have:r=0:=by simpa [iEq] using e
  subst this;rfl
 have hse0:sEq ([]:List UInt8) []=true:=by rfl
 have hi0:iEq 0 0=true:=by rfl
 have hkk:iEq k k=true:=by simp [iEq]
 rw [hkk]
 rcases u8_cases hk with rfl|rfl|rfl|rfl|rfl|rfl|rfl|rfl|rfl|h8
 all_goals first
  |(have hgt:decide (k > 8)=true:=decide_eq_true h8
    simp only [hgt,Bool.true_or,cond_true]
    done)
  |(simp only [iEq] at hr1
    simp only [iEq,Int.reduceBEq,Int.reduceGT,Int.reduceGE,decide_true,decide_false,cond_true,cond_false,Bool.or_true,Bool.true_or,Bool.or_false,Bool.false_or,Bool.and_true,Bool.true_and,Bool.and_false,Bool.false_and,Bool.not_true,Bool.not_false,hz,hse0,hi0,num_May_zero]
    generalize sEq s []=S at *
    generalize (r == 0)=R at *
    generalize decide (r > 0)=Q at *
    generalize num_May n=M at *
    generalize fEq n 0=Z at *
    generalize fEq n 4607182418800017408=O at *
    clear hN hM hn hk
    revert hAs hr1
    clear hA hse hr0
    revert A S R Q M Z O
    decide)
end Go.Fw
end
section
set_option linter.unusedVariables false
set_option linter.unusedSimpArgs false
set_option linter.unusedSectionVars false
namespace Go.Fw
set_option linter.unusedVariables false
set_option linter.unusedSimpArgs false
set_option maxRecDepth 20000
def hb (n:Int)(i:Nat):Bool:=n.toNat.testBit i
structure Bits (n:Int):Prop where
 a1:iNe (iAnd .u8 n 1) 0=hb n 0
 a2:iNe (iAnd .u8 n 2) 0=hb n 1
 a4:iNe (iAnd .u8 n 4) 0=hb n 2
 a8:iNe (iAnd .u8 n 8) 0=hb n 3
 a16:iNe (iAnd .u8 n 16) 0=hb n 4
 a32:iNe (iAnd .u8 n 32) 0=hb n 5
 z1:iEq (iAnd .u8 n 1) 0=!hb n 0
 z4:iEq (iAnd .u8 n 4) 0=!hb n 2
 z8:iEq (iAnd .u8 n 8) 0=!hb n 3
 c1:iNe (iAnd .u8 (iCom .u8 n) 1) 0=!hb n 0
 c2:iNe (iAnd .u8 (iCom .u8 n) 2) 0=!hb n 1
 c4:iNe (iAnd .u8 (iCom .u8 n) 4) 0=!hb n 2
 c8:iNe (iAnd .u8 (iCom .u8 n) 8) 0=!hb n 3
 c16:iNe (iAnd .u8 (iCom .u8 n) 16) 0=!hb n 4
 c32:iNe (iAnd .u8 (iCom .u8 n) 32) 0=!hb n 5
 a12:iNe (iAnd .u8 n 12) 0=(hb n 2||hb n 3)
 a3:iNe (iAnd .u8 n 3) 0=(hb n 0||hb n 1)
 z15:iEq (iAnd .u8 n 15) 0=!((hb n 0||hb n 1)||(hb n 2||hb n 3))
 n63:iNe (iAndNot .u8 n 63) 0=decide (n > 63)
 r1:iEq (iRem .u8 (iQuo .u8 n 1) 2) 1=hb n 0
 r2:iEq (iRem .u8 (iQuo .u8 n 2) 2) 1=hb n 1
 r4:iEq (iRem .u8 (iQuo .u8 n 4) 2) 1=hb n 2
 r8:iEq (iRem .u8 (iQuo .u8 n 8) 2) 1=hb n 3
 r16:iEq (iRem .u8 (iQuo .u8 n 16) 2) 1=hb n 4
 r32:iEq (iRem .u8 (iQuo .u8 n 32) 2) 1=hb n 5
 o60:decide (n > 63)=false→(hb n 0||hb n 1)=false→iOr .u8 n 60=60
 o51:decide (n > 63)=false→(hb n 2||hb n 3)=false→iOr .u8 n 51=51
 p60:decide (n > 63)=false→(hb n 0||hb n 1)=false→iOr .u8 (iAndNot .u8 n 48) 60=60
 p51:decide (n > 63)=false→(hb n 2||hb n 3)=false→iOr .u8 (iAndNot .u8 n 48) 51=51
 p12:iNe (iAnd .u8 (iAndNot .u8 n 48) 12) 0=(hb n 2||hb n 3)
 e51:n=51→(hb n 0=true∧hb n 1=true∧hb n 2=false∧hb n 3=false∧hb n 4=true∧hb n 5=true)
 e60:n=60→(hb n 0=false∧hb n 1=false∧hb n 2=true∧hb n 3=true∧hb n 4=true∧hb n 5=true)
 w60:(hb n 2||hb n 3)=true→decide (n > 63)=false→(hb n 0||hb n 1)=false→iNe n (iOr .u8 n 60)=!(iEq n 51||iEq n 60)
 w51:(hb n 2||hb n 3)=false→decide (n > 63)=false→iNe n (iOr .u8 n 51)=!(iEq n 51||iEq n 60)
def bitsP0 (n:Int):Prop:=(iNe (iAnd .u8 n 1) 0=hb n 0∧iNe (iAnd .u8 n 2) 0=hb n 1∧iNe (iAnd .u8 n 4) 0=hb n 2∧iNe (iAnd .u8 n 8) 0=hb n 3∧iNe (iAnd .u8 n 16) 0=hb n 4∧iNe (iAnd .u8 n 32) 0=hb n 5∧
 iEq (iAnd .u8 n 1) 0=(!hb n 0)∧iEq (iAnd .u8 n 4) 0=(!hb n 2)∧iEq (iAnd .u8 n 8) 0=(!hb n 3))
instance (n : Int):Decidable (bitsP0 n):=by unfold bitsP0;infer_instance
theorem bits_all0 : ∀k:Fin 256,bitsP0 ((k:Nat):Int):=by decide +kernel
def bitsP1 (n:Int):Prop:=(iNe (iAnd .u8 (iCom .u8 n) 1) 0=(!hb n 0)∧iNe (iAnd .u8 (iCom .u8 n) 2) 0=(!hb n 1)∧iNe (iAnd .u8 (iCom .u8 n) 4) 0=(!hb n 2)∧iNe (iAnd .u8 (iCom .u8 n) 8) 0=(!hb n 3)∧
 iNe (iAnd .u8 (iCom .u8 n) 16) 0=(!hb n 4)∧iNe (iAnd .u8 (iCom .u8 n) 32) 0=(!hb n 5))
instance (n : Int):Decidable (bitsP1 n):=by unfold bitsP1;infer_instance
theorem bits_all1 : ∀k:Fin 256,bitsP1 ((k:Nat):Int):=by decide +kernel
def bitsP2 (n:Int):Prop:=(iNe (iAnd .u8 n 12) 0=(hb n 2||hb n 3)∧iNe (iAnd .u8 n 3) 0=(hb n 0||hb n 1)∧iEq (iAnd .u8 n 15) 0=(!((hb n 0||hb n 1)||(hb n 2||hb n 3)))∧iNe (iAndNot .u8 n 63) 0=decide (n > 63))
instance (n : Int):Decidable (bitsP2 n):=by unfold bitsP2;infer_instance
theorem bits_all2 : ∀k:Fin 256,bitsP2 ((k:Nat):Int):=by decide +kernel
def bitsP3 (n:Int):Prop:=(iEq (iRem .u8 (iQuo .u8 n 1) 2) 1=hb n 0∧iEq (iRem .u8 (iQuo .u8 n 2) 2) 1=hb n 1∧iEq (iRem .u8 (iQuo .u8 n 4) 2) 1=hb n 2∧iEq (iRem .u8 (iQuo .u8 n 8) 2) 1=hb n 3∧
 iEq (iRem .u8 (iQuo .u8 n 16) 2) 1=hb n 4∧iEq (iRem .u8 (iQuo .u8 n 32) 2) 1=hb n 5)
instance (n : Int):Decidable (bitsP3 n):=by unfold bitsP3;infer_instance
theorem bits_all3 : ∀k:Fin 256,bitsP3 ((k:Nat):Int):=by decide +kernel
def bitsP4 (n:Int):Prop:=(decide (n > 63)=false→(hb n 0||hb n 1)=false→iOr .u8 n 60=60)
instance (n : Int):Decidable (bitsP4 n):=by unfold bitsP4;infer_instance
theorem bits_all4 : ∀k:Fin 256,bitsP4 ((k:Nat):Int):=by decide +kernel
def bitsP5 (n:Int):Prop:=(decide (n > 63)=false→(hb n 2||hb n 3)=false→iOr .u8 n 51=51)
instance (n : Int):Decidable (bitsP5 n):=by unfold bitsP5;infer_instance
theorem bits_all5 : ∀k:Fin 256,bitsP5 ((k:Nat):Int):=by decide +kernel
def bitsP6 (n:Int):Prop:=(decide (n > 63)=false→(hb n 0||hb n 1)=false→iOr .u8 (iAndNot .u8 n 48) 60=60)
instance (n : Int):Decidable (bitsP6 n):=by unfold bitsP6;infer_instance
theorem bits_all6 : ∀k:Fin 256,bitsP6 ((k:Nat):Int):=by decide +kernel
def bitsP7 (n:Int):Prop:=(decide (n > 63)=false→(hb n 2||hb n 3)=false→iOr .u8 (iAndNot .u8 n 48) 51=51)
instance (n : Int):Decidable (bitsP7 n):=by unfold bitsP7;infer_instance
theorem bits_all7 : ∀k:Fin 256,bitsP7 ((k:Nat):Int):=by decide +kernel
def bitsP8 (n:Int):Prop:=iNe (iAnd .u8 (iAndNot .u8 n 48) 12) 0=(hb n 2||hb n 3)
instance (n : Int):Decidable (bitsP8 n):=by unfold bitsP8;infer_instance
theorem bits_all8 : ∀k:Fin 256,bitsP8 ((k:Nat):Int):=by decide +kernel
def bitsP9 (n:Int):Prop:=(n=51→(hb n 0=true∧hb n 1=true∧hb n 2=false∧hb n 3=false∧hb n 4=true∧hb n 5=true))
instance (n : Int):Decidable (bitsP9 n):=by unfold bitsP9;infer_instance
theorem bits_all9 : ∀k:Fin 256,bitsP9 ((k:Nat):Int):=by decide +kernel
def bitsP10 (n:Int):Prop:=(n=60→(hb n 0=false∧hb n 1=false∧hb n 2=true∧hb n 3=true∧hb n 4=true∧hb n 5=true))
instance (n : Int):Decidable (bitsP10 n):=by unfold bitsP10;infer_instance
theorem bits_all10 : ∀k:Fin 256,bitsP10 ((k:Nat):Int):=by decide +kernel
def bitsP11 (n:Int):Prop:=((hb n 2||hb n 3)=true→decide (n > 63)=false→(hb n 0||hb n 1)=false→iNe n (iOr .u8 n 60)=!(iEq n 51||iEq n 60))
instance (n : Int):Decidable (bitsP11 n):=by unfold bitsP11;infer_instance
theorem bits_all11 : ∀k:Fin 256,bitsP11 ((k:Nat):Int):=by decide +kernel
def bitsP12 (n:Int):Prop:=((hb n 2||hb n 3)=false→decide (n > 63)=false→iNe n (iOr .u8 n 51)=!(iEq n 51||iEq n 60))
instance (n : Int):Decidable (bitsP12 n):=by unfold bitsP12;infer_instance
theorem bits_all12 : ∀k:Fin 256,bitsP12 ((k:Nat):Int):=by decide +kernel
theorem bits {n:Int}(h:u8 n):Bits n:=by
 obtain ⟨h0,h1⟩:=h
 have e':((n.toNat:Nat):Int)=n:=by omega
 have q0:=bits_all0 ⟨n.toNat,by omega⟩
 rw [show ((((⟨n.toNat,by omega⟩:Fin 256):Nat)):Int)=n from e'] at q0
 have q1:=bits_all1 ⟨n.toNat,by omega⟩
 rw [show ((((⟨n.toNat,by omega⟩:Fin 256):Nat)):Int)=n from e'] at q1
 have q2:=bits_all2 ⟨n.toNat,by omega⟩
 rw [show ((((⟨n.toNat,by omega⟩:Fin 256):Nat)):Int)=n from e'] at q2
 have q3:=bits_all3 ⟨n.toNat,by omega⟩
 rw [show ((((⟨n.toNat,by omega⟩:Fin 256):Nat)):Int)=n from e'] at q3
 have q4:=bits_all4 ⟨n.toNat,by omega⟩
 rw [show ((((⟨n.toNat,by omega⟩:Fin 256):Nat)):Int)=n from e'] at q4
 have q5:=bits_all5 ⟨n.toNat,by omega⟩
 rw [show ((((⟨n.toNat,by omega⟩:Fin 256):Nat)):Int)=n from e'] at q5
 have q6:=bits_all6 ⟨n.toNat,by omega⟩
 rw [show ((((⟨n.toNat,by omega⟩:Fin 256):Nat)):Int)=n from e'] at q6
 have q7:=bits_all7 ⟨n.toNat,by omega⟩
 rw [show ((((⟨n.toNat,by omega⟩:Fin 256):Nat)):Int)=n from e'] at q7
 have q8:=bits_all8 ⟨n.toNat,by omega⟩
 rw [show ((((⟨n.toNat,by omega⟩:Fin 256):Nat)):Int)=n from e'] at q8
 have q9:=bits_all9 ⟨n.toNat,by omega⟩
 rw [show ((((⟨n.toNat,by omega⟩:Fin 256):Nat)):Int)=n from e'] at q9
 have q10:=bits_all10 ⟨n.toNat,by omega⟩
 rw [show ((((⟨n.toNat,by omega⟩:Fin 256):Nat)):Int)=n from e'] at q10
 have q11:=bits_all11 ⟨n.toNat,by omega⟩
 rw [show ((((⟨n.toNat,by omega⟩:Fin 256):Nat)):Int)=n from e'] at q11
 have q12:=bits_all12 ⟨n.toNat,by omega⟩
 rw [show ((((⟨n.toNat,by omega⟩:Fin 256):Nat)):Int)=n from e'] at q12
 obtain ⟨a,b,c,d,e,f,g,h,i⟩:=q0
 obtain ⟨j,k,l,m,o,p⟩:=q1
 obtain ⟨q,r,s,t⟩:=q2
 obtain ⟨u,v,w,x,y,z⟩:=q3
 exact ⟨a,b,c,d,e,f,g,h,i,j,k,l,m,o,p,q,r,s,t,u,v,w,x,y,z,q4,q5,q6,q7,q8,q9,q10,q11,q12⟩
def GDesc.ok (v:GDesc):Prop:=u8 v.Has∧v.Value.ok∧v.Get.ok∧v.Set.ok
def nilB (v:GVal):Bool:=(iEq v.Kind 0)&&((fEq v.Num 0)&&((sEq v.Str [])&&(iEq v.Ref 0)))
theorem bare_eq {v:GVal}(h:v.ok):ref09_bare v=(value_May v&&nilB v):=by
 rw [value_May_eq h]
 unfold ref09_bare ref07_Alike nilB ref07_May
 dsimp only
 rw [ref01_Same_zero]
 have hn:ref07_nought v.Num=(fEq v.Num 0&&ref07_nought v.Num):=by
  unfold ref07_nought;cases fEq v.Num 0<;>rfl
 rw [hn]
 by_cases hk:v.Kind=0
 ·rw [hk]
  have e1:decide ((0:Int) > 8)=false:=rfl
  have e2:iEq 0 3=false:=rfl
  have e3:iEq 0 2=false:=rfl
  have e4:iEq 0 4=false:=rfl
  have e5:iEq 0 0=true:=rfl
  have e6:decide ((0:Int)≥5)=false:=rfl
  simp only [e1,e2,e3,e4,e5,e6,cond_false,Bool.false_and,Bool.or_false,Bool.true_and]
  cases sEq v.Str []<;>cases iEq v.Ref 0<;>cases fEq v.Num 0<;>cases ref07_nought v.Num<;>rfl
 ·have e5:iEq v.Kind 0=false:=by simp [iEq,hk]
  simp [e5]
theorem called_eq {v:GVal}(h:v.ok):desc_called v=ref09_called v:=by
 unfold desc_called ref09_called
 dsimp only
 rw [value_May_eq h]
 rfl
theorem nil_called {v:GVal}:(desc_called v&&nilB v)=(value_May v&&nilB v):=by
 unfold desc_called nilB
 dsimp only
 cases value_May v<;>cases iEq v.Kind 0<;>simp
theorem check_eq {x:GDesc}(h:x.ok):desc_Check x=ref09_Check x:=by
 obtain ⟨h1,h2,h3,h4⟩:=h
 have B:=bits h1
 unfold desc_Check ref09_Check desc_IsData desc_IsAccess ref09_IsData ref09_IsAccess ref09_Has
 dsimp only
 rw [← value_May_eq h2,bare_eq h2,bare_eq h3,bare_eq h4,← called_eq h3,← called_eq h4,← nil_called (v:=x.Get),← nil_called (v:=x.Set)]
 have n2:((iEq x.Value.Kind 0)&&((fEq x.Value.Num 0)&&((sEq x.Value.Str [])&&(iEq x.Value.Ref 0))))=nilB x.Value:=rfl
 have n3:((iEq x.Get.Kind 0)&&((fEq x.Get.Num 0)&&((sEq x.Get.Str [])&&(iEq x.Get.Ref 0))))=nilB x.Get:=rfl
 have n4:((iEq x.Set.Kind 0)&&((fEq x.Set.Num 0)&&((sEq x.Set.Str [])&&(iEq x.Set.Ref 0))))=nilB x.Set:=rfl
 rw [n2,n3,n4,B.a12,B.a3,B.n63,B.c1,B.c2,B.c4,B.c8,B.c16,B.c32,B.r1,B.r2,B.r4,B.r8,B.r16,B.r32]
 generalize value_May x.Value=M
 generalize desc_called x.Get=G
 generalize desc_called x.Set=S
 generalize nilB x.Value=N2
 generalize nilB x.Get=N3
 generalize nilB x.Set=N4
 generalize hb x.Has 0=b0
 generalize hb x.Has 1=b1
 generalize hb x.Has 2=b2
 generalize hb x.Has 3=b3
 generalize hb x.Has 4=b4
 generalize hb x.Has 5=b5
 generalize decide (x.Has > 63)=big
 generalize x.Writable=w
 generalize x.Enumerable=e
 generalize x.Configurable=c
 have key:((((((big||((b0||b1)&&(b2||b3)))||(!M))||(!G))||(!S))||((((!b0)&&(!N2))||((!b2)&&(!N3)))||((!b3)&&(!N4))))||((((!b1)&&w)||((!b4)&&e))||((!b5)&&c))) =
   ((big||((b0||b1)&&(b2||b3)))||((((!(bif b0 then M else (M&&N2)))||(!(bif b2 then G else (G&&N3))))||(!(bif b3 then S else (S&&N4))))||(!((((!w)||b1)&&((!e)||b4))&&((!c)||b5))))):=by
  cases big
  ·cases M
   ·cases b0<;>simp
   ·cases G
    ·cases b2<;>simp
    ·cases S
     ·cases b3<;>simp
     ·clear B h1 h2 h3 h4 n2 n3 n4
      revert N2 N3 N4 b0 b1 b2 b3 b4 b5 w e c
      decide +kernel
  ·simp
 have two:∀p q:Bool,(bif p then (90:Int) else bif q then 90 else 0)=bif (p||q) then 90 else 0:=by intro p q;cases p<;>rfl
 have three:∀p q r:Bool,(bif p then (90:Int) else bif q then 90 else bif r then 90 else 0)=bif ((p||q)||r) then 90 else 0:=by intro p q r;cases p<;>cases q<;>rfl
 rw [three,two]
 rw [← key]
end Go.Fw
end
section
set_option linter.unusedVariables false
set_option linter.unusedSimpArgs false
set_option linter.unusedSectionVars false
namespace Go.Fw
set_option linter.unusedVariables false
set_option linter.unusedSimpArgs false
theorem nought_zero {n:Nat}(h:n<2 ^ 64)(hz:ref07_nought n=true):n=0:=by
 unfold ref07_nought at hz
 rw [Bool.and_eq_true,fEq_zero] at hz
 obtain ⟨h1,h2⟩:=hz
 have hs:=rdneg n
 cases hx:rd64 n with
 |nan s t=>rw [hx] at h1;cases h1
 |infinity s=>rw [hx] at h1;cases h1
 |number s m i=>
  cases m with
  |succ m=>rw [hx] at h1;cases h1
  |zero=>
   rw [inv_gt hx] at h2
   have hs2:s=false:=by simpa using h2
   rw [hx,hs2] at hs
   have e:(2:Nat) ^ 64=18446744073709551616:=by decide
   rw [e] at h
   have hd:n / 9223372036854775808=0:=by
    simp only [Ieee.Datum.neg] at hs
    have:n / 9223372036854775808 % 2≠1:=by
     intro k
     rw [k] at hs
     cases hs
    omega
   have hr:n % 9223372036854775808=0:=by
    unfold rd64 Ieee.Format.read at hx
    have e:FloatKind.f64.format.signWeight=9223372036854775808:=by rfl
    have e3:FloatKind.f64.format.binade=4503599627370496:=by rfl
    simp only [e,e3] at hx
    split at hx
    ·simp only [Ieee.Datum.number.injEq] at hx;exact hx.2.1
    ·split at hx
     ·simp only [Ieee.Datum.number.injEq] at hx;omega
     ·split at hx<;>cases hx
   omega
theorem bare_zero {v:GVal}(h:v.ok)(hb:ref09_bare v=true):v=GVal.mk 0 0 [] 0:=by
 obtain ⟨k,n,s,r⟩:=v
 unfold ref09_bare ref07_Alike at hb
 dsimp only at hb
 rw [ref01_Same_zero] at hb
 simp only [Bool.and_eq_true,iEq,sEq,beq_iff_eq,decide_eq_true_eq] at hb
 obtain ⟨⟨⟨rfl,rfl⟩,rfl⟩,hn⟩:=hb
 obtain rfl:=nought_zero h.2 hn
 rfl
structure Chk (x:GDesc):Prop where
 big:decide (x.Has > 63)=false
 da:((hb x.Has 0||hb x.Has 1)&&(hb x.Has 2||hb x.Has 3))=false
 w:(hb x.Has 1||!x.Writable)=true
 e:(hb x.Has 4||!x.Enumerable)=true
 c:(hb x.Has 5||!x.Configurable)=true
 v:hb x.Has 0=false→x.Value=GVal.mk 0 0 [] 0
 g:hb x.Has 2=false→x.Get=GVal.mk 0 0 [] 0
 s:hb x.Has 3=false→x.Set=GVal.mk 0 0 [] 0
theorem check_cases {x:GDesc}(h:x.ok):ref09_Check x=90∨(ref09_Check x=0∧Chk x):=by
 obtain ⟨h1,h2,h3,h4⟩:=h
 have B:=bits h1
 have z2:=bare_zero h2
 have z3:=bare_zero h3
 have z4:=bare_zero h4
 by_cases hc:ref09_Check x=90
 ·exact .inl hc
 ·refine .inr ?_
  unfold ref09_Check ref09_IsData ref09_IsAccess ref09_Has at hc ⊢
  dsimp only at hc ⊢
  rw [B.r1,B.r2,B.r4,B.r8,B.r16,B.r32] at hc ⊢
  generalize hA:(decide (x.Has > 63)||((hb x.Has 0||hb x.Has 1)&&(hb x.Has 2||hb x.Has 3)))=A at hc ⊢
  cases A
  ·simp only [cond_false] at hc ⊢
   generalize hQ:((((!(bif hb x.Has 0 then ref07_May x.Value else ref09_bare x.Value))||(!(bif hb x.Has 2 then ref09_called x.Get else ref09_bare x.Get)))||(!(bif hb x.Has 3 then ref09_called x.Set else ref09_bare x.Set)))||(!((((!x.Writable)||hb x.Has 1)&&((!x.Enumerable)||hb x.Has 4))&&((!x.Configurable)||hb x.Has 5))))=Q at hc ⊢
   cases Q
   ·refine ⟨rfl,?_⟩
    simp only [Bool.or_eq_false_iff,Bool.not_eq_false',Bool.and_eq_true] at hQ hA
    obtain ⟨⟨⟨q1,q2⟩,q3⟩,⟨q4,q5⟩,q6⟩:=hQ
    refine ⟨hA.1,hA.2,by rw [Bool.or_comm];exact q4,by rw [Bool.or_comm];exact q5,by rw [Bool.or_comm];exact q6,fun e=>?_,fun e=>?_,fun e=>?_⟩
    ·rw [e] at q1;exact z2 q1
    ·rw [e] at q2;exact z3 q2
    ·rw [e] at q3;exact z4 q3
   ·exact absurd rfl hc
  ·exact absurd rfl hc
theorem isAccess_eq {x:GDesc}(h:u8 x.Has):desc_IsAccess x=(hb x.Has 2||hb x.Has 3):=(bits h).a12
theorem whole_has {x:GDesc}(h:u8 x.Has)(c:Chk x):iNe x.Has (desc_whole x).Has=!(iEq x.Has 51||iEq x.Has 60):=by
 have B:=bits h
 unfold desc_whole
 dsimp only
 rw [isAccess_eq h]
 have hda:=c.da
 cases ha:(hb x.Has 2||hb x.Has 3)
 ·simp only [cond_false];exact B.w51 ha c.big
 ·rw [ha,Bool.and_true] at hda
  simp only [cond_true];exact B.w60 ha c.big hda
theorem ref09_Alike_self (x:GDesc):ref09_Alike x x=true:=by
 unfold ref09_Alike
 simp [ref07_Alike_self,iEq,bEq]
theorem vok {v:GVal}(h:v.wf):v.ok:=⟨h.Kind,h.Num⟩
theorem dok {v:GDesc}(h:v.wf):v.ok:=⟨h.Has,vok h.Value,vok h.Get,vok h.Set⟩
end Go.Fw
end
section
set_option linter.unusedVariables false
set_option linter.unusedSimpArgs false
set_option linter.unusedSectionVars false
namespace Go.Fw
set_option linter.unusedVariables false
set_option linter.unusedSimpArgs false
def pl (l:List GProp)(k:GKey):Option Nat:=l.findIdx? (fun p=>decide (p.Key=k))
theorem Place_l2 (x0:List GProp)(x1:GKey)(hl:x0.length≤4294967296):∀(n j:Nat) (u2:Int),j≤x0.length→x0.length-j<n→
  ref10_Place_l2 x0 x1 n u2 j=match (x0.drop j).findIdx? (fun p=>decide (p.Key=x1)) with|some i=>(false,default,((j+i:Nat):Int))|none=>(true,u2,default)
 |0,j,u2,hj,hn=>by omega
 |n+1,j,u2,hj,hn=>by
  simp only [ref10_Place_l2,q_lt,key_eq,qAdd (show j≤4294967296 by omega),Int.toNat_natCast]
  by_cases hlt:j<x0.length
  ·rw [q_drop x0 j hlt]
   simp only [hlt,decide_true,Bool.not_true,cond_false,List.findIdx?_cons]
   by_cases hk:(x0.getD j default).Key=x1
   ·simp only [hk,decide_true,cond_true,if_true,Nat.add_zero]
   ·simp only [hk,decide_false,cond_false,Bool.false_eq_true,if_false]
    rw [Place_l2 x0 x1 hl n (j+1) u2 (by omega) (by omega)]
    cases (x0.drop (j+1)).findIdx? (fun p=>decide (p.Key=x1)) with
    |none=>rfl
    |some i=>simp only [Option.map_some];congr 3;omega
  ·simp only [hlt,decide_false,Bool.not_false,cond_true]
   rw [List.drop_eq_nil_iff.2 (by omega)];rfl
theorem Place_eq (x0:List GProp)(x1:GKey)(hl:x0.length≤4294967296):ref10_Place x0 x1=match pl x0 x1 with|some i=>(i:Int)|none => -1:=by
 unfold ref10_Place pl
 dsimp only
 rw [show (0:Int)=((0:Nat):Int) from rfl,Place_l2 x0 x1 hl _ 0 _ (by omega) (by omega),List.drop_zero]
 cases List.findIdx? (fun p:GProp=>decide (p.Key=x1)) x0 with
 |none=>rfl
 |some i=>simp [qsel,selB,iEq]
theorem at_l2 (x0:List GProp)(x1:GKey):∀(n:Nat) (u2 u3:Int),table_at_l2 x0 x1 n u2 u3=ref10_Place_l2 x0 x1 n u2 u3
 |0,_,_=>rfl
 |n+1,u2,u3=>by simp only [table_at_l2,ref10_Place_l2,at_l2]
theorem at_eq (x0:List GProp)(x1:GKey):table_at x0 x1=ref10_Place x0 x1:=by
 unfold table_at ref10_Place;simp only [at_l2]
end Go.Fw
end
section
set_option linter.unusedVariables false
set_option linter.unusedSimpArgs false
set_option linter.unusedSectionVars false
namespace Go.Fw
set_option linter.unusedVariables false
set_option linter.unusedSimpArgs false
theorem keyCheck_eq (k:GKey):key_Check k=ref08_Check k:=by
 have:sNe k.Str []=decide ((sLen k.Str:Int) > 0):=by
  unfold sNe sLen
  cases k.Str with
  |nil=>simp
  |cons a r=>simp<;>omega
 unfold key_Check ref08_Check
 rw [this]
theorem keyCheck_cases (k:GKey):ref08_Check k=9∨ref08_Check k=0:=by
 unfold ref08_Check
 generalize (_||_)=b
 cases b<;>simp
theorem tw_eq {x:GDesc}(h:x.ok):table_whole x=ref09_IsWhole x:=by
 unfold table_whole desc_Complete ref09_IsWhole
 dsimp only
 rw [check_eq h]
 rcases check_cases h with h9|⟨h0,hc⟩
 ·simp [h9,iNe,iEq]
 ·have:=whole_has h.1 hc
  have e:iEq (desc_whole x).Has x.Has=(iEq x.Has 51||iEq x.Has 60):=by
   rw [qiNe] at this
   rw [qiEq,decide_eq_decide.2 (eq_comm (a:=(desc_whole x).Has) (b:=x.Has))]
   exact Bool.not_inj this
  simp [h0,iNe,iEq] at e ⊢
  exact e
def pchk (pre:List GKey):List GProp→Int
 |[]=>0
 |p::r=>bif iNe (ref08_Check p.Key) 0 then 9 else bif !ref09_IsWhole p.Desc then 90 else bif decide (p.Key∈pre) then 100 else pchk (pre++[p.Key]) r
theorem mapPut_get {m:List (GKey×Int)}{k k':GKey}{v:Int}:(mapGet (0:Int) k' (mapPut k v m)).2=if k'=k then v else (mapGet (0:Int) k' m).2:=by
 induction m with
 |nil=>
  simp only [mapPut,mapGet]
  by_cases h:k'=k<;>simp [h]
 |cons e r ih=>
  simp only [mapPut]
  by_cases h:k=e.1
  ·simp only [h,if_true,mapGet]
   by_cases h2:k'=e.1<;>simp [h2]
  ·simp only [h,if_false,mapGet]
   by_cases h2:k'=e.1
   ·have:¬k'=k:=fun e2=>h (e2▸h2)
    simp only [h2,if_true]
    have h3:¬e.1=k:=fun e2=>h e2.symm
    simp [h3]
   ·simp only [h2,if_false];exact ih
theorem tcheck_l1 (x0:List GProp)(hl:x0.length≤4294967296)(hok:∀p∈x0,p.Desc.ok):∀(n j:Nat) (u1:Int) (m:List (GKey×Int)),j≤x0.length→x0.length-j<n→
  (∀k,decide ((mapGet (0:Int) k m).2 > 0)=decide (k∈(x0.take j).map (·.Key)))→
  (bif !(iEq (selB (table_Check_l1 x0 n u1 j m).1) 0) then (table_Check_l1 x0 n u1 j m).2.2.2.1 else 0)=pchk ((x0.take j).map (·.Key)) (x0.drop j)
 |0,j,u1,m,hj,hn,hm=>by omega
 |n+1,j,u1,m,hj,hn,hm=>by
  simp only [table_Check_l1,q_lt,qAdd (show j≤4294967296 by omega),Int.toNat_natCast]
  by_cases hlt:j<x0.length
  ·rw [q_drop x0 j hlt]
   have hp:=q_getD x0 j hlt
   simp only [hlt,decide_true,Bool.not_true,cond_false,pchk,keyCheck_eq,tw_eq (hok _ hp),hm]
   cases h1:iNe (ref08_Check (x0.getD j default).Key) 0 with
   |true=>
    rcases keyCheck_cases (x0.getD j default).Key with h9|h9
    ·rw [h9];rfl
    ·rw [h9] at h1;cases h1
   |false=>
    simp only [cond_false]
    cases h2:ref09_IsWhole (x0.getD j default).Desc with
    |false=>rfl
    |true=>
     simp only [Bool.not_true,cond_false]
     by_cases h3:(x0.getD j default).Key∈(x0.take j).map (·.Key)
     ·simp only [h3,decide_true,cond_true,qsel,Bool.not_false]
     ·simp only [h3,decide_false,cond_false]
      have hk:(x0.take (j+1)).map (·.Key)=(x0.take j).map (·.Key)++[(x0.getD j default).Key]:=by rw [q_take x0 j hlt,List.map_append];rfl
      rw [tcheck_l1 x0 hl hok n (j+1) u1 _ (by omega) (by omega) ?_,hk]
      intro k
      rw [mapPut_get,hk]
      by_cases he:k=(x0.getD j default).Key
      ·subst he
       simp<;>omega
      ·simp only [he,if_false,hm k]
       simp only [List.mem_append,List.mem_singleton,he,or_false]
  ·simp only [hlt,decide_false,Bool.not_false,cond_true]
   rw [List.drop_eq_nil_iff.2 (by omega)];rfl
theorem pl_mem {l:List GProp}{k:GKey}:(pl l k).isSome=decide (k∈l.map (·.Key)):=by
 unfold pl
 rw [List.findIdx?_isSome,Bool.eq_iff_iff,List.any_eq_true,decide_eq_true_iff,List.mem_map]
 constructor
 ·rintro ⟨x,hx,h⟩;exact ⟨x,hx,of_decide_eq_true h⟩
 ·rintro ⟨x,hx,h⟩;exact ⟨x,hx,decide_eq_true h⟩
theorem Place_mem {l:List GProp}{k:GKey}(hl:l.length≤4294967296):decide (ref10_Place l k≥0)=decide (k∈l.map (·.Key)):=by
 rw [Place_eq l k hl,← pl_mem]
 cases pl l k<;>simp
theorem rcheck_l1 (x0:List GProp)(hl:x0.length≤4294967296):∀(n j:Nat) (u1:Int),j≤x0.length→x0.length-j<n→
  (bif !(iEq (selB (ref10_Check_l1 x0 n u1 j).1) 0) then (ref10_Check_l1 x0 n u1 j).2.2 else 0)=pchk ((x0.take j).map (·.Key)) (x0.drop j)
 |0,j,u1,hj,hn=>by omega
 |n+1,j,u1,hj,hn=>by
  simp only [ref10_Check_l1,q_lt,qAdd (show j≤4294967296 by omega),Int.toNat_natCast,List.drop_zero,Int.toNat_zero,Nat.sub_zero]
  by_cases hlt:j<x0.length
  ·rw [q_drop x0 j hlt]
   generalize hx:x0.getD j default=p
   have hlk:(x0.take j).length≤4294967296:=by simp;omega
   simp only [hlt,decide_true,Bool.not_true,cond_false,pchk,Place_mem hlk]
   cases h1:iNe (ref08_Check p.Key) 0 with
   |true=>simp [qsel]
   |false=>
    simp only [cond_false]
    cases h2:ref09_IsWhole p.Desc with
    |false=>simp [qsel]
    |true=>
     simp only [Bool.not_true,cond_false]
     by_cases h3:p.Key∈(x0.take j).map (·.Key)
     ·simp only [h3,decide_true,cond_true,qsel,Bool.not_false]
     ·simp only [h3,decide_false,cond_false]
      have hk:(x0.take (j+1)).map (·.Key)=(x0.take j).map (·.Key)++[p.Key]:=by rw [q_take x0 j hlt,hx];simp
      rw [rcheck_l1 x0 hl n (j+1) u1 (by omega) (by omega),hk]
  ·simp only [hlt,decide_false,Bool.not_false,cond_true]
   rw [List.drop_eq_nil_iff.2 (by omega)];simp [qsel,pchk]
theorem rCheck_eq (x0:List GProp)(hl:x0.length≤4294967296):ref10_Check x0=bif decide ((x0.length:Int) > 1024) then 4 else pchk [] x0:=by
 unfold ref10_Check
 simp only [mLen_eq]
 have:=rcheck_l1 x0 hl (x0.length+1) 0 0 (by omega) (by omega)
 simp only [List.take_zero,List.map_nil,List.drop_zero] at this
 rw [← this]
 rfl
theorem tCheck_eq (x0:List GProp)(hl:x0.length≤4294967296)(hok:∀p∈x0,p.Desc.ok):table_Check x0=ref10_Check x0:=by
 rw [rCheck_eq x0 hl]
 unfold table_Check
 simp only [mLen_eq]
 have:=tcheck_l1 x0 hl hok (x0.length+1) 0 0 [] (by omega) (by omega) (by intro k;simp [mapGet])
 simp only [List.take_zero,List.map_nil,List.drop_zero] at this
 rw [← this]
 rfl
theorem asked_eq (x0:List GProp)(k:GKey)(hl:x0.length≤4294967296)(hok:∀p∈x0,p.Desc.ok):table_asked x0 k=ref10_asked x0 k:=by
 unfold table_asked ref10_asked
 rw [tCheck_eq x0 hl hok,keyCheck_eq]
theorem pchk_nodup : ∀{l:List GProp} {pre:List GKey},pchk pre l=0→(∀p∈l,p.Key∉pre)∧l.Pairwise (fun p q=>p.Key≠q.Key)
 |[],pre,h=>by simp
 |p::r,pre,h=>by
  simp only [pchk] at h
  cases h1:iNe (ref08_Check p.Key) 0 with
  |true=>simp [h1] at h
  |false=>
   simp only [h1,cond_false] at h
   cases h2:ref09_IsWhole p.Desc with
   |false=>simp [h2] at h
   |true=>
    simp only [h2,Bool.not_true,cond_false] at h
    by_cases h3:p.Key∈pre
    ·simp [h3] at h
    ·simp only [h3,decide_false,cond_false] at h
     obtain ⟨i1,i2⟩:=pchk_nodup h
     refine ⟨fun q hq=>?_,List.pairwise_cons.2 ⟨fun q hq e=>?_,i2⟩⟩
     ·cases hq with
      |head=>exact h3
      |tail _ hq=>exact fun hm=>i1 q hq (by simp [hm])
     ·exact i1 q hq (by simp [e])
theorem Same_l2_self (x0:List GProp)(hl:x0.length≤4294967296):∀(n j:Nat) (u2:Bool),j≤x0.length→x0.length-j<n→(ref10_Same_l2 x0 x0 n u2 j).1=true
 |0,j,u2,hj,hn=>by omega
 |n+1,j,u2,hj,hn=>by
  simp only [ref10_Same_l2,q_lt,key_eq,qAdd (show j≤4294967296 by omega),Int.toNat_natCast,ref09_Alike_self,decide_true,Bool.not_true,Bool.or_false,cond_false]
  by_cases hlt:j<x0.length
  ·simp only [hlt,decide_true,Bool.not_true,cond_false]
   exact Same_l2_self x0 hl n (j+1) u2 (by omega) (by omega)
  ·simp only [hlt,decide_false,Bool.not_false,cond_true]
theorem Same_self10 (x0:List GProp)(hl:x0.length≤4294967296):ref10_Same x0 x0=true:=by
 unfold ref10_Same
 have:=Same_l2_self x0 hl (x0.length+1) 0 false (by omega) (by omega)
 have e:(0:Int)=((0:Nat):Int):=rfl
 simp only [qiNe_self,cond_false]
 rw [e,this];rfl
theorem stays_self (x0:List GProp)(hl:x0.length≤4294967296):law10_stays (law10_twin x0) x0=true:=by
 have hv:(law10_twin x0).getD x0.length default=(GProp.mk (GKey.mk [55,55] 0) (GDesc.mk 0 (GVal.mk 0 0 [] 0) (GVal.mk 0 0 [] 0) (GVal.mk 0 0 [] 0) false false false)):=by
  simp [law10_twin]
 have ht:((law10_twin x0).drop 0).take (x0.length-0)=x0:=by simp [law10_twin]
 unfold law10_stays
 dsimp only
 rw [mLen_eq,Int.toNat_natCast,Int.toNat_zero,hv,ht,Same_self10 x0 hl]
 rfl
end Go.Fw
end
section
set_option linter.unusedVariables false
set_option linter.unusedSimpArgs false
set_option linter.unusedSectionVars false
namespace Go.Fw
set_option linter.unusedVariables false
set_option linter.unusedSimpArgs false
theorem ref10_Check_len (x0:List GProp):ref10_Check x0=0→x0.length≤1024:=by
 intro h
 unfold ref10_Check at h
 simp only [mLen_eq] at h
 by_cases hl:(x0.length:Int) > 1024
 ·simp [hl] at h
 ·omega
theorem ref10_Keys_l2_eq {x0:List GProp}(hl:x0.length≤4294967296):∀(n j:Nat) (u:List GKey),j≤x0.length→x0.length-j<n→ref10_Keys_l2 x0 n u j=u++(x0.drop j).map (·.Key)
 |0,j,u,hj,hn=>by omega
 |n+1,j,u,hj,hn=>by
  simp only [ref10_Keys_l2,q_lt,Int.toNat_natCast]
  by_cases hlt:j<x0.length
  ·rw [q_drop x0 j hlt]
   simp only [decide_eq_true hlt,Bool.not_true,cond_false,qAdd (show j≤4294967296 by omega)]
   rw [ref10_Keys_l2_eq hl n (j+1) _ (by omega) (by omega)];simp
  ·simp only [decide_eq_false hlt,Bool.not_false,cond_true]
   rw [List.drop_eq_nil_iff.2 (by omega)];simp
theorem ref10_Keys_l2_all {x0:List GProp}(hl:x0.length≤4294967296):ref10_Keys_l2 x0 (x0.length+1) [] 0=x0.map (·.Key):=by
 have:=ref10_Keys_l2_eq hl (x0.length+1) 0 [] (by omega) (by omega)
 simpa using this
theorem ref10_Keys_eq {x0:List GProp}(hl:x0.length≤4294967296):ref10_Keys x0=bif iNe (ref10_Check x0) 0 then ([],ref10_Check x0) else (ref08_Order (x0.map (·.Key)),0):=by
 unfold ref10_Keys
 dsimp only
 rw [ref10_Keys_l2_all hl]
theorem ref10_Names_pl {x0:List GProp}{v1:List GKey×Int}(hl:x0.length≤4294967296)(hv:v1=ref10_Keys x0){u:Int}:v1.2=0→0≤u→u<v1.1.length→0≤ref10_Place x0 (v1.1.getD u.toNat default):=by
 intro h0 h1 h2
 rw [ref10_Keys_eq hl] at hv
 have hm:=q_getD v1.1 u.toNat (by omega)
 generalize v1.1.getD u.toNat default=k at hm
 by_cases hc:ref10_Check x0=0
 ·rw [iNe_f.2 hc] at hv
  subst hv
  have hlen:=ref10_Check_len x0 hc
  have hm':k∈ref08_Order (x0.map (·.Key)):=hm
  have:=(rOrder_ok (x0:=x0.map (·.Key)) (by simp;omega)).2.len_mem k hm'
  rw [Place_eq x0 k hl]
  have h3:=pl_mem (l:=x0) (k:=k)
  rw [decide_eq_true this] at h3
  cases hp:pl x0 k with
  |none=>rw [hp] at h3;cases h3
  |some i=>simp
 ·rw [iNe_t.2 hc] at hv
  subst hv
  exact absurd h0 hc
theorem ref10_Names_plH {x0:List GProp}{u v6:Int}{v1:List GKey×Int}(e1:v1=ref10_Keys x0)(e6:v6=ref10_Place x0 (v1.1.getD u.toNat default))(hl:lLen (List.map GProp.enc x0)≤4294967296)(h0:v1.2=0)(h1:0≤u)(h2:u<lLen (List.map GKey.enc v1.1)):0≤v6:=
 e6▸ref10_Names_pl (by simp only [lLen,List.length_map] at hl;omega) e1 h0 h1 (by simpa [lLen] using h2)
theorem sm_dec {x1 x2 x3:Int}{n:Nat}(h0:0≤x1)(h1:x1<x2)(h2:x2<x3)(h3:x3≤4294967296)(hm:(x3-x1).toNat<n+1):(midT x1 x3-x1).toNat<n∧(x3-midT x1 x3).toNat<n:=by
 rw [midT_eq h0 (by omega) (by omega)];omega
end Go.Fw
end
section
set_option linter.unusedVariables false
set_option linter.unusedSimpArgs false
set_option linter.unusedSectionVars false
namespace Go.Fw
set_option linter.unusedSectionVars false
variable [Glob]
open Go.Lib
set_option linter.unusedSimpArgs false
set_option linter.unusedVariables false
def eqLen (len:Tm)(n:Nat):Tm:=.bin .eql (.int .i64) len (.li (.ofNat n))
def lenK (pc:Pc)(len:Tm):Tm:=match pc.known (eqLen len 0),pc.known (eqLen len 1) with
 |some true,_=>.li 0
 |_,some true=>.li 1
 |_,_=>len
def aggOf : Option SV→Option (List SV)
 |some (.agg l)=>some l
 |_=>none
def swapR (P:Program)(th:Tr SB)(nx nv:Nat)(pc:Pc)(ti tj:Tm)(b sz:Nat)(len t:Tm)(e:TypeId):Option CR:=
 match aggOf (shapeOf P nv [] e),aggOf (shapeOf P (nv+1) [] e) with
 |some x,some y=>bif Nat.beq x.length sz&&(Nat.beq y.length sz&&(tyOf P e == some (true,sz))) then
  some ⟨[(.lb true,⟨.c .undef,wrT th [(b,some (.rowsT sz (.var (nv+3) [])))],nx⟩)],nv+4,
   (([.tm (.bin .leq (.int .i64) (.li 0) ti),.tm (.bin .lss (.int .i64) ti (.rlen t)),.tm (.bin .leq (.int .i64) (.li 0) tj),.tm (.bin .lss (.int .i64) tj (.rlen t)),.row t ti x,.row t tj y,.st t ti 0 y (.var (nv+2) []),.st (.var (nv+2) []) tj 0 x (.var (nv+3) [])]:List Side)++lenS len t).map fun s=>(pc,s)⟩ else none
 |_,_=>none
def inlRefT (P:Program)(c:RefCfg):Inl:=fun pc th nx nv f args=>
 bif Nat.beq f c.vo then
  match args with
  |[.ifc t (.os b sz off len)]=>match elTy P t with
   |some _=>some ⟨[(.lb true,⟨.agg [.c (.at P.globals.size t),.op nx 1 (.li 0) 0,.sc (.int .u64) (.li 151)],wrT th [(nx,some (.rows 1 [[.os b sz off len]]))],nx+1⟩)],nv,[]⟩
   |none=>none
  |_=>none
 else bif Nat.beq f c.ln then
  match args with
  |[.agg [.c (.at g t),.op b1 1 (.li 0) 0,.sc (.int .u64) (.li 151)]]=>match elTy P t,th.get b1 with
   |some _,some (.rows 1 [[.os b sz off len]])=>bif Nat.beq g P.globals.size then some ⟨[(.lb true,⟨.sc (.int .i64) (lenK pc len),th,nx⟩)],nv,[(pc,.tm (.bin .leq (.int .i64) (.li 0) len))]⟩ else none
   |_,_=>none
  |_=>none
 else bif Nat.beq f c.sw then
  match args with
  |[.ifc t (.os b sz off len)]=>match elTy P t with
   |some e=>bif bigEl P e then
    some ⟨[(eqLen len 0,⟨.fn c.l1 [] [],th,nx⟩),(eqLen len 1,⟨.fn c.l2 [] [],th,nx⟩),(.lb true,⟨.fn c.l9 [] [.os b sz off len,.c (.at P.globals.size e)],th,nx⟩)],nv,[(pc,.tm (.bin .leq (.int .i64) (.li 0) len))]⟩ else none
   |none=>none
  |_=>none
 else bif Nat.beq f c.l9 then
  match args with
  |[.sc (.int .i64) ti,.sc (.int .i64) tj,.os b sz 0 len,.c (.at g e)]=>match th.get b with
   |some (.rowsT sz' t)=>bif Nat.beq g P.globals.size&&Nat.beq sz sz' then swapR P th nx nv pc ti tj b sz len t e else none
   |_=>none
  |_=>none
 else none
theorem le0 {P:Program}{ρ:List AV}{len:Tm}(h:Side.holds P ρ (.tm (.bin .leq (.int .i64) (.li 0) len))):0≤(len.den ρ).I:=of_decide_eq_true h
theorem tmH {P:Program}{ρ:List AV}{t:Tm}{p:Prop}[Decidable p](h:Side.holds P ρ (.tm t))(e:(t.den ρ).B=decide p:=by rfl):p:=of_decide_eq_true (e▸h)
theorem lenK_ok {ρ:List AV}{pc:Pc}{len:Tm}(hp:pc.holds ρ):((lenK pc len).den ρ).I=(len.den ρ).I:=by
 have e:∀n:Nat,pc.known (eqLen len n)=some true→(len.den ρ).I=(n:Int):=fun n h=>by
  have:=Pc.known_holds hp h
  simpa [eqLen,Tm.den,binD,D.B,D.I,iEq] using this
 unfold lenK
 split
 ·rw [e 0 (by assumption)];rfl
 ·rw [e 1 (by assumption)];rfl
 ·rfl
theorem inlRefT_ok {P:Program}{c:RefCfg}(hc:RefOk P c):∀σ:List AV,fzL σ=true→InlOk P σ (inlRefT P c):=by
 intro ρ hfz pc th nx nv f args R h hp hs base w E ah vs hah hh hG hrep o a he next Q hnext
 unfold inlRefT at h
 cases h1:Nat.beq f c.vo
 case true=>
  rw [h1] at h
  simp only [cond_true] at h
  obtain rfl:=Nat.eq_of_beq_eq_true h1
  split at h
  ·rename_i t b sz off len
   split at h
   ·rename_i e hel
    simp only [Option.some.injEq] at h;subst h
    obtain ⟨i,hi,hd,-⟩:=elTy_ok hel
    obtain ⟨v,rfl,hv⟩:=repL_one hrep
    obtain ⟨u,rfl,hu⟩:=ifc_inv hv
    obtain ⟨p,cc,rfl⟩:=os_slice hu
    obtain ⟨w',E',hw',q1,q2,q3⟩:=new_row hh (Nat.le_refl nx) t (cs:=[SV.den ρ (.os b sz off len)]) (vs:=#[.slice p ((len.den ρ).I.toNat) cc]) ⟨rfl,fun i x y h1 h2=>by
     match i,h1,h2 with
     |0,h1,h2=>cases h1;cases h2;exact hu⟩ (by simp [SV.den,AV.scal])
    refine wp_of_value hc.vo he (run_valueOf_slice t e i hi hd p _ cc w) ?_
    rw [← hw']
    refine hnext _ rfl _ _ E' (upds ah [(nx,some (.rows 1 [[SV.den ρ (.os b sz off len)]]))]) (AhR_wr hah) q1 (q2.weaken fun b hb=>⟨Nat.le_of_succ_le hb,Nat.ne_of_gt hb⟩) ?_
    refine .agg _ _ rfl (fun c hc=>by simp only [denL,List.mem_cons,List.not_mem_nil,or_false] at hc;rcases hc with rfl|rfl|rfl<;>rfl) fun i x y h1 h2=>?_
    match i,h1,h2 with
    |0,h1,h2=>cases h1;cases h2;exact .p rfl
    |1,h1,h2=>cases h1;cases h2;exact q3
    |2,h1,h2=>cases h1;cases h2;exact .p rfl
   ·cases h
  ·cases h
 case false=>
 rw [h1] at h
 simp only [cond_false] at h
 cases h2:Nat.beq f c.ln
 case true=>
  rw [h2] at h
  simp only [cond_true] at h
  obtain rfl:=Nat.eq_of_beq_eq_true h2
  split at h
  ·rename_i g t b1
   split at h
   ·rename_i x y z b sz off len hel hb1
    cases hg:Nat.beq g P.globals.size
    ·simp [hg] at h
    ·simp only [hg,cond_true,Option.some.injEq] at h;subst h
     obtain rfl:=Nat.eq_of_beq_eq_true hg
     obtain ⟨i,hi,hd,hpk⟩:=elTy_ok hel
     obtain ⟨v,rfl,hv⟩:=repL_one hrep
     obtain ⟨vs,rfl,ha⟩:∃vs:Array Value,v=.agg vs∧RepL w E (denL ρ [.c (.at P.globals.size t),.op b1 1 (.li 0) 0,.sc (.int .u64) (.li 151)]) vs.toList:=by
      cases hv with|agg cs vs hl hs h=>exact ⟨vs,rfl,by simpa using hl,fun i x y h1 h2=>h i x y h1 (by simpa using h2)⟩
     obtain ⟨v0,v1,v2,hvs⟩:∃v0 v1 v2,vs.toList=[v0,v1,v2]:=by
      match hm:vs.toList,(show vs.toList.length=3 by rw [← ha.1];rfl) with
      |[v0,v1,v2],_=>exact ⟨v0,v1,v2,rfl⟩
     obtain rfl:vs=#[v0,v1,v2]:=by apply Array.ext';simpa using hvs
     have r0:=(ha.2 0 _ v0 rfl rfl).p_inv
     have r2:=(ha.2 2 _ v2 rfl rfl).p_inv
     obtain ⟨cb,ob,r1,hown⟩:=(ha.2 1 _ v1 rfl rfl).op_inv
     subst r0;subst r1;subst r2
     rcases hh.blk b1 _ (hah _ _ hb1) with ⟨_,h0⟩|⟨c',o',arr,tt,g1,g2,g3,g4,g5⟩
     ·simp [SB.den,denLL] at h0
     ·rw [hown] at g1;cases g1
      obtain ⟨u,hu1,hu2⟩:=g5.2.2.2 0 _ 0 _ rfl rfl
      obtain ⟨p,cc,rfl⟩:=os_slice hu2
      have hcell:w.cell? ⟨cb,ob+0*1+0,none⟩=some (.slice p ((len.den ρ).I.toNat) cc):=by
       simp only [World.cell?,g4]
       simp at hu1 ⊢
       exact hu1
      refine wp_of_value hc.ln he (run_valueLen_slice t _ i hi hd hpk _ p _ cc w hcell) ?_
      refine hnext _ rfl _ _ E ah hah (Step.refl _ _ _) hh ?_
      have h0:=le0 (hs (pc,.tm (.bin .leq (.int .i64) (.li 0) len)) (by simp) hp)
      show Rep w E (.p (.int .i64 ((lenK pc len).den ρ).I)) _
      rw [lenK_ok hp,Int.toNat_of_nonneg h0]
      exact .p rfl
   ·cases h
  ·cases h
 case false=>
 rw [h2] at h
 simp only [cond_false] at h
 cases h3:Nat.beq f c.sw
 case true=>
  rw [h3] at h
  simp only [cond_true] at h
  obtain rfl:=Nat.eq_of_beq_eq_true h3
  split at h
  ·rename_i t b sz off len
   split at h
   ·rename_i e hel
    cases hb:bigEl P e
    ·simp [hb] at h
    ·simp only [hb,cond_true,Option.some.injEq] at h;subst h
     have h0:=le0 (hs (pc,.tm (.bin .leq (.int .i64) (.li 0) len)) (by simp) hp)
     obtain ⟨i,hi,hd,-⟩:=elTy_ok hel
     obtain ⟨ie,hie,hk,hsk⟩:=bigEl_ok hb
     obtain ⟨v,rfl,hv⟩:=repL_one hrep
     obtain ⟨u,rfl,hu⟩:=ifc_inv hv
     obtain ⟨p,cc,rfl⟩:=os_slice hu
     have g0:∀n:Nat,(Tm.den ρ (eqLen len n)).B=decide ((len.den ρ).I=(n:Int)):=fun n=>by
      show iEq _ _=_;unfold iEq;exact eq_int
     by_cases e0:(len.den ρ).I.toNat=0
     ·refine wp_of_value hc.sw he (run_swapper_slice t e i ie hi hd hie 25 hk p _ cc c.l1 (by rw [hsk,if_pos e0];exact hc.n1) w) ?_
      refine hnext ⟨.fn c.l1 [] [],th,nx⟩ ?_ _ _ E ah hah (Step.refl _ _ _) hh ?_
      ·have:(Tm.den ρ (eqLen len 0)).B=true:=by rw [g0];exact decide_eq_true (by omega)
       simp only [selG,this,cond_true]
      ·rw [hsk,if_pos e0,if_pos (by omega)]
       exact .fn _ _ _ _ _ rfl rfl (fun i c v h=>by simp [denL] at h) (fun i c v h=>by simp [denL] at h)
     ·have b0:(Tm.den ρ (eqLen len 0)).B=false:=by rw [g0];exact decide_eq_false (by omega)
      by_cases e1:(len.den ρ).I.toNat=1
      ·refine wp_of_value hc.sw he (run_swapper_slice t e i ie hi hd hie 25 hk p _ cc c.l2 (by rw [hsk,if_neg e0,if_pos e1];exact hc.n2) w) ?_
       refine hnext ⟨.fn c.l2 [] [],th,nx⟩ ?_ _ _ E ah hah (Step.refl _ _ _) hh ?_
       ·have:(Tm.den ρ (eqLen len 1)).B=true:=by rw [g0];exact decide_eq_true (by omega)
        simp only [selG,b0,this,cond_true,cond_false]
       ·rw [hsk,if_neg e0,if_pos e1]
        exact .fn _ _ _ _ _ rfl rfl (fun i c v h=>by simp [denL] at h) (fun i c v h=>by simp [denL] at h)
      ·have b1:(Tm.den ρ (eqLen len 1)).B=false:=by rw [g0];exact decide_eq_false (by omega)
       refine wp_of_value hc.sw he (run_swapper_slice t e i ie hi hd hie 25 hk p _ cc c.l9 (by rw [hsk,if_neg e0,if_neg e1];exact hc.n9) w) ?_
       refine hnext ⟨.fn c.l9 [] [.os b sz off len,.c (.at P.globals.size e)],th,nx⟩ ?_ _ _ E ah hah (Step.refl _ _ _) hh ?_
       ·simp only [selG,b0,b1,cond_false]
       rw [hsk,if_neg e0,if_neg e1,if_neg (by omega)]
       refine .fn _ _ _ _ _ rfl rfl (fun i c v h=>by simp [denL] at h) (fun i x y h1 h2=>?_)
       match i,h1,h2 with
       |0,h1,h2=>cases h1;cases h2;exact hu
       |1,h1,h2=>cases h1;cases h2;exact .p rfl
   ·cases h
  ·cases h
 case false=>
 rw [h3] at h
 simp only [cond_false] at h
 cases h4:Nat.beq f c.l9
 case false=>simp [h4] at h
 case true=>
  rw [h4] at h
  simp only [cond_true] at h
  obtain rfl:=Nat.eq_of_beq_eq_true h4
  split at h
  ·rename_i ti tj b sz len g e
   split at h
   ·rename_i sz' t hb
    cases hg:Nat.beq g P.globals.size&&Nat.beq sz sz'
    ·simp [hg] at h
    simp only [hg,cond_true] at h
    simp only [Bool.and_eq_true] at hg
    obtain ⟨g1,g4⟩:=hg
    obtain rfl:=Nat.eq_of_beq_eq_true g1
    obtain rfl:=Nat.eq_of_beq_eq_true g4
    unfold swapR at h
    split at h
    ·rename_i x y hx hy
     cases hgg:Nat.beq x.length sz&&(Nat.beq y.length sz&&(tyOf P e == some (true,sz)))
     ·simp [hgg] at h
     simp only [hgg,cond_true,Option.some.injEq] at h;subst h
     simp only [Bool.and_eq_true,beq_iff_eq] at hgg
     obtain ⟨g5,g6,g7⟩:=hgg
     have lx:=Nat.eq_of_beq_eq_true g5
     have ly:=Nat.eq_of_beq_eq_true g6
     have hab:=hah _ _ hb
     have side:∀s,s∈(([.tm (.bin .leq (.int .i64) (.li 0) ti),.tm (.bin .lss (.int .i64) ti (.rlen t)),.tm (.bin .leq (.int .i64) (.li 0) tj),.tm (.bin .lss (.int .i64) tj (.rlen t)),.row t ti x,.row t tj y,.st t ti 0 y (.var (nv+2) []),.st (.var (nv+2) []) tj 0 x (.var (nv+3) [])]:List Side)++lenS len t)→s.holds P ρ:=fun s hm=>hs (pc,s) (List.mem_map.2 ⟨s,hm,rfl⟩) hp
     have i0:0≤(ti.den ρ).I:=tmH (side _ (List.mem_append_left _ (List.mem_of_getElem? (i:=0) rfl)))
     have i1:(ti.den ρ).I<((t.den ρ).R.length:Int):=tmH (side _ (List.mem_append_left _ (List.mem_of_getElem? (i:=1) rfl)))
     have j0:0≤(tj.den ρ).I:=tmH (side _ (List.mem_append_left _ (List.mem_of_getElem? (i:=2) rfl)))
     have j1:(tj.den ρ).I<((t.den ρ).R.length:Int):=tmH (side _ (List.mem_append_left _ (List.mem_of_getElem? (i:=3) rfl)))
     obtain ⟨-,rx⟩:=side _ (List.mem_append_left _ (List.mem_of_getElem? (i:=4) rfl))
     obtain ⟨-,ry⟩:=side _ (List.mem_append_left _ (List.mem_of_getElem? (i:=5) rfl))
     obtain ⟨rw1,sx1,sx2,sx3⟩:=side _ (List.mem_append_left _ (List.mem_of_getElem? (i:=6) rfl))
     obtain ⟨rw2,sy1,sy2,sy3⟩:=side _ (List.mem_append_left _ (List.mem_of_getElem? (i:=7) rfl))
     have hlen:(len.den ρ).I.toNat=(t.den ρ).R.length:=lenS_ok (P:=P) fun s hm=>side s (List.mem_append_right _ hm)
     have lx':(denL ρ x).length=sz:=by rw [denL_length,lx]
     have ly':(denL ρ y).length=sz:=by rw [denL_length,ly]
     rw [rx] at sx1;cases sx1
     rw [lay_all (by rw [lx',ly'])] at sx3
     obtain ⟨I,hI⟩:∃I,I=(ti.den ρ).I.toNat:=⟨_,rfl⟩
     obtain ⟨J,hJ⟩:∃J,J=(tj.den ρ).I.toNat:=⟨_,rfl⟩
     have rj:∃z,((t.den ρ).R.set I (denL ρ y))[J]?=some z∧z.length=sz:=by
      rw [List.getElem?_set]
      by_cases eij:I=J
      ·rw [if_pos eij,if_pos (by omega)];exact ⟨_,rfl,ly'⟩
      ·rw [if_neg eij,hJ];exact ⟨_,ry,ly'⟩
     obtain ⟨z,rz,lz⟩:=rj
     rw [sx3,← hI,← hJ,rz] at sy1;cases sy1
     rw [lay_all (by rw [lx',lz]),sx3] at sy3
     rw [← hI] at rx sy3
     rw [← hJ] at ry sy3
     obtain ⟨v0,v1,v2,v3,rfl⟩:∃v0 v1 v2 v3,vs=[v0,v1,v2,v3]:=by
      match vs,hrep.1 with
      |[v0,v1,v2,v3],_=>exact ⟨v0,v1,v2,v3,rfl⟩
     have r0:=(hrep.2 0 _ v0 rfl rfl).p_inv
     have r1:=(hrep.2 1 _ v1 rfl rfl).p_inv
     have r3:=(hrep.2 3 _ v3 rfl rfl).p_inv
     have r2:=hrep.2 2 _ v2 rfl rfl
     subst r0;subst r1;subst r3
     obtain ⟨n,hn⟩:∃n,n=(len.den ρ).I.toNat:=⟨_,rfl⟩
     have hi:I<n:=by omega
     have hj:J<n:=by omega
     obtain ⟨c0,o0,cap,hown,rfl⟩:∃c0 o0 cap,E.own b=.at c0 o0∧v2=.slice (some ⟨c0,o0+0*sz,none⟩) n cap:=by
      generalize hm:SV.den ρ (.os b sz 0 len)=A at r2
      have hm:A=.os b sz 0 n:=by rw [hn];exact hm.symm
      subst hm
      cases r2 with
      |osnil=>omega
      |os _ _ _ _ c0 o0 cap hb=>exact ⟨c0,o0,cap,hb,rfl⟩
     have hnb:¬nx≤b:=fun hc=>by have:=hh.nofresh hc;rw [hab] at this;cases this
     have px:Rep w E (.op b sz I 0) (.pointer (some ⟨c0,o0+I*sz+0,none⟩)):=.op _ _ _ _ _ _ hown
     have py:Rep w E (.op b sz J 0) (.pointer (some ⟨c0,o0+J*sz+0,none⟩)):=.op _ _ _ _ _ _ hown
     obtain ⟨q1,vx,rfl,-,ex,hvx⟩:=aLoad_rd (K:=fun r=>r=⟨.agg (denL ρ x),[],[b]⟩) hh (t:=e) (a:=.op b sz I 0) (by
      unfold aLoad
      rw [g7]
      dsimp only [withO]
      rw [hab]
      dsimp only [SB.den]
      refine ⟨rfl,?_⟩
      rw [rx]
      refine ⟨by simp [lx'],?_⟩
      simp [← lx']) px
     obtain ⟨q2,vy,rfl,-,ey,hvy⟩:=aLoad_rd (K:=fun r=>r=⟨.agg (denL ρ y),[],[b]⟩) hh (t:=e) (a:=.op b sz J 0) (by
      unfold aLoad
      rw [g7]
      dsimp only [withO]
      rw [hab]
      dsimp only [SB.den]
      refine ⟨rfl,?_⟩
      rw [ry]
      refine ⟨by simp [ly'],?_⟩
      simp [← ly']) py
     obtain ⟨q3,w1,E1,rfl,s1,st1,hh1,-⟩:=aStore_wr (K:=fun r=>r=⟨.p undef,[(b,some (.rows sz ((t.den ρ).R.set I (denL ρ y))))],[b]⟩) (id:=b) hh (t:=e) (a:=.op b sz I 0) (v:=.agg (denL ρ y)) (by
      unfold aStore
      rw [g7]
      dsimp only [withO]
      rw [hab]
      dsimp only [SB.den]
      refine ⟨rfl,rfl,ly',?_⟩
      rw [rx]
      refine ⟨by simp [lx'],?_⟩
      show _=_
      rw [show AV.cells (.agg (denL ρ y))=denL ρ y from rfl,lay_all (by rw [lx',ly'])]) px hvy
     obtain ⟨q4,w2,E2,rfl,s2,st2,hh2,-⟩:=aStore_wr (K:=fun r=>r=⟨.p undef,[(b,some (.rows sz (((t.den ρ).R.set I (denL ρ y)).set J (denL ρ x))))],[b]⟩) (id:=b) hh1 (t:=e) (a:=.op b sz J 0) (v:=.agg (denL ρ x)) (by
      unfold aStore
      rw [g7]
      dsimp only [withO]
      rw [show upds ah [(b,some (.rows sz ((t.den ρ).R.set I (denL ρ y))))] b=some (.rows sz ((t.den ρ).R.set I (denL ρ y))) by simp [upds,upd]]
      refine ⟨rfl,rfl,lx',?_⟩
      rw [rz]
      refine ⟨by simp [lz],?_⟩
      show _=_
      rw [show AV.cells (.agg (denL ρ x))=denL ρ x from rfl,lay_all (by rw [lx',lz])]) (py.mono st1.ext) (hvx.mono st1.ext)
     have hrun:(Extern.ReflectliteSwapper.swap false #[.int .i64 (ti.den ρ).I,.int .i64 (tj.den ρ).I,.slice (some ⟨c0,o0+0*sz,none⟩) n cap,typeHandle P e]).run P w=.ok (.tuple #[]) w2:=by
      rw [show (ti.den ρ).I=(I:Int) by omega,show (tj.den ρ).I=(J:Int) by omega,swap_run I J _ _ _ _ hi hj]
      rw [loadVar_of] at ex ey
      rw [storeVar_of] at s1 s2
      have ai:(⟨c0,o0,none⟩:Addr).add (I*sz)=⟨c0,o0+I*sz+0,none⟩:=by
       simp [Addr.add]
      have aj:(⟨c0,o0,none⟩:Addr).add (J*sz)=⟨c0,o0+J*sz+0,none⟩:=by
       simp [Addr.add]
      simp only [Nat.add_zero] at ai aj ex ey s1 s2
      simp [Extern.ReflectliteSwapper.exchange,Extern.Rtype.ofHandle,handleType,typeHandle,Result.andThen,size_of_ty g7,ai,aj,ex,ey,s1,s2]
     refine wp_of_value hc.l9 he hrun ?_
     refine hnext _ rfl _ _ E2 (upds ah [(b,some (.rows sz (((t.den ρ).R.set I (denL ρ y)).set J (denL ρ x))))]) ?_ (st1.trans st2) ?_ (.p rfl)
     ·have:=AhR_wr (ρ:=ρ) (wr:=[(b,some (.rowsT sz (.var (nv+3) [])))]) hah
      simp only [List.map_cons,List.map_nil,Option.map_some,SB.den,sy3] at this ⊢
      exact this
     ·have e2:upds (upds ah [(b,some (.rows sz ((t.den ρ).R.set I (denL ρ y))))]) [(b,some (.rows sz (((t.den ρ).R.set I (denL ρ y)).set J (denL ρ x))))]=upds ah [(b,some (.rows sz (((t.den ρ).R.set I (denL ρ y)).set J (denL ρ x))))]:=by
       simp only [upds]
       exact upd_upd _ _ _ _
      rw [e2] at hh2
      exact hh2.weaken fun b' hb'=>⟨⟨hb',fun e=>hnb (e▸hb')⟩,fun e=>hnb (e▸hb')⟩
    ·cases h
   ·cases h
  ·cases h
def hasF (l:List FuncId):Nat→SV→Bool
 |0,_=>true
 |n+1,.fn f _ _=>l.contains f
 |n+1,.agg cs=>cs.any (hasF l n)
 |_,_=>false
def notF (l:List FuncId)(I:Inl):Inl:=fun pc th nx nv f args=>bif args.any (hasF l 5) then none else I pc th nx nv f args
theorem notF_ok {P:Program}{l:List FuncId}{I:Inl}(h:∀σ:List AV,fzL σ=true→InlOk P σ I):∀σ:List AV,fzL σ=true→InlOk P σ (notF l I):=by
 intro σ hσ pc th nx nv f args R hR
 unfold notF at hR
 cases hb:args.any (hasF l 5)
 ·rw [hb] at hR;exact h σ hσ pc th nx nv f args R hR
 ·rw [hb] at hR;cases hR
end Go.Fw
end
section
set_option linter.unusedVariables false
set_option linter.unusedSimpArgs false
set_option linter.unusedSectionVars false
namespace Go.Fw
open Go.Proofs
set_option maxRecDepth 100000
theorem hmix : Try.prog.follows .mixedOrders=true:=by kernel_rfl
theorem pc_math_Float64bits (x0:Nat):PC Try.prog 161 [.p (.float .f64 x0)] (.p (.int .u64 (math_Float64bits x0))):=
 pc_ext1 (fn:=Try.f161) (e:=Extern.MathFloatBits.float64bits) (by kernel_rfl) (by kernel_rfl) (by kernel_rfl) (by kernel_rfl) (by kernel_rfl) rfl rfl rfl rfl
theorem pc_math_Float64frombits (x0:Int):PC Try.prog 160 [.p (.int .u64 x0)] (.p (.float .f64 (math_Float64frombits x0))):=
 pc_ext1 (fn:=Try.f160) (e:=Extern.MathFloatBits.float64frombits) (by kernel_rfl) (by kernel_rfl) (by kernel_rfl) (by kernel_rfl) (by kernel_rfl) rfl rfl rfl rfl
theorem pc_math_archTrunc (x0:Nat)(h:notNan x0):PC Try.prog 158 [.p (.float .f64 x0)] (.p (.float .f64 (math_archTrunc x0))):=
 pc_ext1 (fn:=Try.f158) (e:=Extern.MathFloor.toIntegral "math.archTrunc" .zero) (by kernel_rfl) (by kernel_rfl) (by kernel_rfl) (by kernel_rfl) (by kernel_rfl) rfl (trunc_run h) rfl rfl
def refCfg : RefCfg:=⟨93,96,94,115,116,123⟩
theorem refOk : RefOk Try.prog refCfg where
 vo:=fun args w=>run_callFunc_extern Try.func93 (by kernel_rfl) (by kernel_rfl) (by kernel_rfl) (e:=fun args=>Extern.ReflectliteValue.unpack (args.getD 0 (.tuple #[]))) (by kernel_rfl) args w
 ln:=fun args w=>run_callFunc_extern Try.func96 (by kernel_rfl) (by kernel_rfl) (by kernel_rfl) (e:=Extern.ReflectliteValue.method (Extern.ReflectliteValue.valueError "reflectlite.Value.Len" 0) Extern.ReflectliteValue.len) (by kernel_rfl) args w
 sw:=fun args w=>run_callFunc_extern Try.func94 (by kernel_rfl) (by kernel_rfl) (by kernel_rfl) (e:=Extern.ReflectliteSwapper.swapper "internal/reflectlite" (Extern.ReflectliteValue.valueError "Swapper")) (by kernel_rfl) args w
 l9:=fun args w=>run_callFunc_extern Try.func123 (by kernel_rfl) (by kernel_rfl) (by kernel_rfl) (e:=Extern.ReflectliteSwapper.swap false) (by kernel_rfl) args w
 n1:=by kernel_rfl
 n2:=by kernel_rfl
 n9:=by kernel_rfl
end Go.Fw
end
section
set_option linter.unusedVariables false
set_option linter.unusedSimpArgs false
set_option linter.unusedSectionVars false
namespace Go.Fw
set_option linter.unusedSectionVars false
set_option linter.unusedSimpArgs false
set_option linter.unusedVariables false
abbrev LF :=List (Nat×Int)
def LF.ev (v:Nat→Int):LF→Int
 |[]=>0
 |x::r=>x.2*v x.1+LF.ev v r
theorem LF.ev_app {v:Nat→Int}:∀{a b:LF},LF.ev v (a++b)=a.ev v+b.ev v
 |[],b=>by simp [LF.ev]
 |x::a,b=>by simp only [List.cons_append,LF.ev,LF.ev_app (a:=a) (b:=b)];omega
def cns (i:Nat)(c:Int)(l:LF):LF:=fInt' c fun c=>match c with
 | .ofNat 0=>l
 |c=>(i,c)::l
theorem cns_ev {v:Nat→Int}{i:Nat}{c:Int}{l:LF}:(cns i c l).ev v=c*v i+l.ev v:=by
 unfold cns
 rw [fInt'_eq]
 split
 ·simp
 ·rfl
def mrg : Nat→LF→LF→LF
 |0,a,b=>a++b
 |n+1,a,b=>match a with
  |[]=>b
  |x::a'=>match b with
   |[]=>x::a'
   |y::b'=>bif Nat.blt x.1 y.1 then x::mrg n a' (y::b') else bif Nat.blt y.1 x.1 then y::mrg n (x::a') b' else cns x.1 (x.2+y.2) (mrg n a' b')
theorem mrg_ev {v:Nat→Int}:∀{n:Nat} {a b:LF},(mrg n a b).ev v=a.ev v+b.ev v
 |0,a,b=>LF.ev_app
 |n+1,[],b=>by simp [mrg,LF.ev]
 |n+1,x::a,[]=>by simp [mrg,LF.ev]
 |n+1,x::a,y::b=>by
  simp only [mrg]
  cases h:Nat.blt x.1 y.1
  ·simp only [cond_false]
   cases h2:Nat.blt y.1 x.1
   ·have e:x.1=y.1:=by
     have h1:¬x.1<y.1:=fun q=>by rw [show Nat.blt x.1 y.1=true by rw [Nat.blt_eq];exact q] at h;cases h
     have h3:¬y.1<x.1:=fun q=>by rw [show Nat.blt y.1 x.1=true by rw [Nat.blt_eq];exact q] at h2;cases h2
     omega
    simp only [cond_false,cns_ev,mrg_ev (n:=n) (a:=a) (b:=b),LF.ev,e,Int.add_mul];omega
   ·simp only [cond_true,LF.ev,mrg_ev (n:=n) (a:=x::a) (b:=b)];omega
  ·simp only [cond_true,LF.ev,mrg_ev (n:=n) (a:=a) (b:=y::b)];omega
def scl (k:Int):LF→LF
 |[]=>[]
 |x::r=>cns x.1 (k*x.2) (scl k r)
theorem scl_ev {v:Nat→Int}{k:Int}:∀{a:LF},(scl k a).ev v=k*a.ev v
 |[]=>by simp [scl,LF.ev]
 |x::r=>by simp only [scl,cns_ev,LF.ev,scl_ev (a:=r),Int.mul_add,Int.mul_assoc]
def addL (a b:LF):LF:=mrg 60 a b
def subL (a b:LF):LF:=mrg 60 a (scl (-1) b)
theorem addL_ev {v:Nat→Int}{a b:LF}:(addL a b).ev v=a.ev v+b.ev v:=mrg_ev
theorem subL_ev {v:Nat→Int}{a b:LF}:(subL a b).ev v=a.ev v-b.ev v:=by
 unfold subL;rw [mrg_ev,scl_ev];omega
def cof (i:Nat):LF→Int
 |[]=>0
 |x::r=>bif Nat.beq x.1 i then x.2 else cof i r
def isNeg : Int→Bool
 | .ofNat _=>false
 | .negSucc _=>true
theorem isNeg_iff {n:Int}:isNeg n=true↔n<0:=by cases n<;>simp [isNeg]
def absN (n:Int):Int:=match n with | .ofNat m=>.ofNat m | .negSucc m=>.ofNat (m+1)
theorem absN_nn {n:Int}:0≤absN n:=by
 cases n with
 |ofNat m=>simp [absN]
 |negSucc m=>simp [absN];omega
def comb (c d:Int)(N f:LF):LF:=bif Nat.beq c.natAbs d.natAbs then addL N f else match absN d with
 | .ofNat 1=>addL N (scl (absN c) f)
 |_=>addL (scl (absN d) N) (scl (absN c) f)
theorem comb_ev {v:Nat→Int}{c d:Int}{N f:LF}(hN:0≤N.ev v)(hf:0≤f.ev v):0≤(comb c d N f).ev v:=by
 have:=Int.mul_nonneg (absN_nn (n:=d)) hN
 have:=Int.mul_nonneg (absN_nn (n:=c)) hf
 unfold comb
 cases Nat.beq c.natAbs d.natAbs
 ·simp only [cond_false]
  split<;>simp only [addL_ev,scl_ev]<;>omega
 ·simp only [cond_true,addL_ev];omega
def partC (c d:Int):Bool:=Nat.blt d.natAbs c.natAbs&&Nat.ble c.natAbs 4
def opp (i:Nat)(ng:Bool):List LF→List LF
 |[]=>[]
 |f::r=>match cof i f with
  | .ofNat 0=>opp i ng r
  | .ofNat (_+1)=>bif ng then f::opp i ng r else opp i ng r
  | .negSucc _=>bif ng then opp i ng r else f::opp i ng r
theorem opp_mem {i:Nat}{ng:Bool}:∀{fs:List LF} {f:LF},f∈opp i ng fs→f∈fs
 |[],f,h=>by simp [opp] at h
 |g::r,f,h=>by
  unfold opp at h
  split at h
  ·exact List.mem_cons_of_mem _ (opp_mem h)
  ·cases ng
   ·exact List.mem_cons_of_mem _ (opp_mem h)
   ·simp only [cond_true,List.mem_cons] at h
    rcases h with h|h
    ·simp [h]
    ·exact List.mem_cons_of_mem _ (opp_mem h)
  ·cases ng
   ·simp only [cond_false,List.mem_cons] at h
    rcases h with h|h
    ·simp [h]
    ·exact List.mem_cons_of_mem _ (opp_mem h)
   ·exact List.mem_cons_of_mem _ (opp_mem h)
def pickA (fs:List LF):LF→Option (Int×Nat×Nat×List LF)→Option (Int×Nat×Nat×List LF)
 |[],b=>b
 |(0,_)::r,b=>pickA fs r b
 |(i+1,c)::r,b=>
  let o:=opp (i+1) (isNeg c) fs
  fNat o.length fun n=>match b with
   |none=>pickA fs r (some (c,i+1,n,o))
   |some (c',j,m,o')=>bif Nat.blt n m then pickA fs r (some (c,i+1,n,o)) else pickA fs r (some (c',j,m,o'))
theorem pickA_mem {fs:List LF}:∀{N:LF} {b:Option (Int×Nat×Nat×List LF)} {x},(∀y,b=some y→∀f∈y.2.2.2,f∈fs)→pickA fs N b=some x→∀f∈x.2.2.2,f∈fs
 |[],b,x,hb,h=>hb x h
 |(0,_)::r,b,x,hb,h=>pickA_mem (N:=r) hb h
 |(i+1,c)::r,b,x,hb,h=>by
  have hs:∀(n:Nat) (y:Int×Nat×Nat×List LF),some (c,i+1,n,opp (i+1) (isNeg c) fs)=some y→∀f∈y.2.2.2,f∈fs:=by
   intro n y hy f hf
   simp only [Option.some.injEq] at hy;subst hy
   exact opp_mem hf
  simp only [pickA,fNat_eq] at h
  split at h
  ·exact pickA_mem (N:=r) (hs _) h
  ·rename_i c' j m o'
   cases hl:Nat.blt (opp (i+1) (isNeg c) fs).length m
   ·rw [hl] at h;exact pickA_mem (N:=r) hb h
   ·rw [hl] at h;exact pickA_mem (N:=r) (hs _) h
def refC (N:LF):Bool:=match N with
 |[(0,c)]=>isNeg c
 |_=>false
def anyF (g:LF→Nat→Option Nat):List LF→Nat→Option Nat
 |[],b=>some b
 |f::r,b=>match g f b with
  |none=>none
  |some b'=>anyF g r b'
def shortF : LF→Bool
 |[]=>true
 |[_]=>true
 |[_,_]=>true
 |_=>false
def ordF (o:List LF):List LF:=o.filter shortF++o.filter fun f=>!(shortF f)
theorem ordF_mem {o:List LF}{f:LF}(h:f∈ordF o):f∈o:=by
 rcases List.mem_append.1 h with h|h<;>exact (List.mem_filter.1 h).1
def refuteF : Nat→List LF→LF→Nat→Option Nat
 |0,_,_,b=>some b
 |d+1,fs,N,b=>match b with
  |0=>some 0
  |b+1=>match pickA fs N none with
   |none=>bif refC N then none else some b
   |some (c,i,_,o)=>anyF (fun f b=>match refuteF d fs (comb c (cof i f) N f) b with
    |none=>none
    |some b'=>bif partC c (cof i f) then refuteF d fs (addL N f) b' else some b') (ordF o) b
theorem anyF_none {g:LF→Nat→Option Nat}:∀{l:List LF} {b:Nat},anyF g l b=none→∃f∈l,∃b',g f b'=none
 |[],b,h=>by simp [anyF] at h
 |f::r,b,h=>by
  simp only [anyF] at h
  split at h
  ·rename_i hg
   exact ⟨f,List.mem_cons_self ..,b,hg⟩
  ·obtain ⟨f',hf',b',hb'⟩:=anyF_none h
   exact ⟨f',List.mem_cons_of_mem _ hf',b',hb'⟩
theorem refuteF_ok {v:Nat→Int}(hv:v 0=1){fs:List LF}(hfs:∀f∈fs,0≤f.ev v):∀{d:Nat} {N:LF} {b:Nat},refuteF d fs N b=none→¬0≤N.ev v
 |0,N,b,h=>by simp [refuteF] at h
 |d+1,N,b,h=>by
  intro hN
  simp only [refuteF] at h
  split at h
  ·cases h
  split at h
  ·cases hc:refC N
   ·rw [hc] at h;cases h
   ·unfold refC at hc
    split at hc
    ·rw [isNeg_iff] at hc
     simp only [LF.ev,hv] at hN
     omega
    ·cases hc
  ·rename_i c i n o hp
   obtain ⟨f,hf,b',h⟩:=anyF_none h
   have hm:=pickA_mem (fs:=fs) (N:=N) (b:=none) (by simp) hp f (ordF_mem hf)
   split at h
   ·rename_i h'
    exact refuteF_ok hv hfs h' (comb_ev hN (hfs f hm))
   ·cases hq:partC c (cof i f)
    ·rw [hq] at h;cases h
    ·rw [hq] at h
     exact refuteF_ok hv hfs h (by rw [addL_ev];have:=hfs f hm;omega)
def nonO : Option Nat→Bool
 |none=>true
 |some _=>false
def prv1 (fs:List LF)(f:LF):Bool:=nonO (refuteF 3 fs (addL (scl (-1) f) [(0,-1)]) 60)||(nonO (refuteF 5 fs (addL (scl (-1) f) [(0,-1)]) 300)||nonO (refuteF 8 fs (addL (scl (-1) f) [(0,-1)]) 1500))
theorem nonO_eq {o:Option Nat}(h:nonO o=true):o=none:=by cases o<;>first|rfl|cases h
theorem prv1_ok {v:Nat→Int}(hv:v 0=1){fs:List LF}(hfs:∀f∈fs,0≤f.ev v){f:LF}(h:prv1 fs f=true):0≤f.ev v:=by
 have:¬0≤(addL (scl (-1) f) [(0,-1)]).ev v:=by
  simp only [prv1,Bool.or_eq_true] at h
  rcases h with h|h|h<;>exact refuteF_ok hv hfs (nonO_eq h)
 rw [addL_ev,scl_ev] at this
 simp only [LF.ev,hv] at this
 omega
def vl (ρ:List AV)(az:List Tm):Nat→Int
 |0=>1
 |i+1=>match az[i]? with
  |some t=>(t.den ρ).I
  |none=>0
def Hold (ρ:List AV)(az:List Tm)(f:LF)(x:Int):Prop:=∀bs,az <+: bs→f.ev (vl ρ bs)=x
def Pos (ρ:List AV)(az:List Tm)(f:LF):Prop:=∀bs,az <+: bs→0≤f.ev (vl ρ bs)
theorem Hold.mono {ρ:List AV}{az bs:List Tm}{f:LF}{x:Int}(h:Hold ρ az f x)(hp:az <+: bs):Hold ρ bs f x:=fun cs hc=>h cs (hp.trans hc)
theorem Pos.mono {ρ:List AV}{az bs:List Tm}{f:LF}(h:Pos ρ az f)(hp:az <+: bs):Pos ρ bs f:=fun cs hc=>h cs (hp.trans hc)
def PosL (ρ:List AV)(az:List Tm)(fs:List LF):Prop:=∀f∈fs,Pos ρ az f
theorem PosL.mono {ρ:List AV}{az bs:List Tm}{fs:List LF}(h:PosL ρ az fs)(hp:az <+: bs):PosL ρ bs fs:=fun f hf=>(h f hf).mono hp
theorem PosL.cons {ρ:List AV}{az:List Tm}{f:LF}{fs:List LF}(h:Pos ρ az f)(k:PosL ρ az fs):PosL ρ az (f::fs):=fun g hg=>by
 rcases List.mem_cons.1 hg with rfl|hg
 ·exact h
 ·exact k g hg
theorem PosL.app {ρ:List AV}{az:List Tm}{fs gs:List LF}(h:PosL ρ az fs)(k:PosL ρ az gs):PosL ρ az (fs++gs):=fun g hg=>by
 rcases List.mem_append.1 hg with hg|hg
 ·exact h g hg
 ·exact k g hg
theorem prv1_pos {ρ:List AV}{az:List Tm}{fs:List LF}(hfs:PosL ρ az fs){f:LF}(h:prv1 fs f=true):Pos ρ az f:=fun bs hb=>
 prv1_ok rfl (fun g hg=>hfs g hg bs hb) h
def tmIdx (t:Tm):Nat→List Tm→Option Nat
 |_,[]=>none
 |i,x::r=>bif x.beq t then some i else tmIdx t (i+1) r
theorem tmIdx_ok {t:Tm}:∀{az:List Tm} {i j:Nat},tmIdx t i az=some j→i≤j∧az[j-i]?=some t
 |[],i,j,h=>by simp [tmIdx] at h
 |x::r,i,j,h=>by
  simp only [tmIdx] at h
  cases hb:x.beq t
  ·rw [hb] at h
   obtain ⟨h1,h2⟩:=tmIdx_ok (az:=r) h
   refine ⟨by omega,?_⟩
   have:j-i=(j-(i+1))+1:=by omega
   rw [this];simpa using h2
  ·rw [hb] at h
   simp only [cond_true,Option.some.injEq] at h
   subst h
   simp [Tm.beq_eq hb]
structure LR where
 az:List Tm
 fs:List LF
 f:LF
def LROk (ρ:List AV)(az:List Tm)(r:LR)(x:Int):Prop:=az <+: r.az∧PosL ρ r.az r.fs∧Hold ρ r.az r.f x
def atomL (t:Tm)(ex:Nat→List LF)(az:List Tm)(fs:List LF):LR:=
 match tmIdx t 0 az with
 |some i=>⟨az,fs,[(i+1,1)]⟩
 |none=>fNat az.length fun n=>⟨az++[t],ex (n+1)++fs,[(n+1,1)]⟩
theorem pre_get {az bs:List Tm}{i:Nat}{t:Tm}(h:az[i]?=some t)(hp:az <+: bs):bs[i]?=some t:=by
 obtain ⟨c,rfl⟩:=hp
 have:=(List.getElem?_eq_some_iff.1 h).1
 rw [List.getElem?_append_left this,h]
theorem one_ev {v:Nat→Int}{i:Nat}:LF.ev v [(i,1)]=v i:=by simp [LF.ev]
theorem atomL_ok {ρ:List AV}{t:Tm}{ex:Nat→List LF}{az:List Tm}{fs:List LF}(hfs:PosL ρ az fs)
  (hex:∀v:Nat→Int,v 0=1→∀n,v n=(t.den ρ).I→(∀f∈fs,0≤f.ev v)→(∃bs,az <+: bs∧v=vl ρ bs)→∀f∈ex n,0≤f.ev v):LROk ρ az (atomL t ex az fs) (t.den ρ).I:=by
 unfold atomL
 split
 ·rename_i i h
  obtain ⟨-,h2⟩:=tmIdx_ok h
  refine ⟨List.prefix_refl _,hfs,fun bs hb=>?_⟩
  rw [one_ev]
  simp only [vl,pre_get (by simpa using h2) hb]
 ·rw [fNat_eq]
  have hp:az <+: az++[t]:=List.prefix_append _ _
  have hv:∀bs,az++[t] <+: bs→vl ρ bs (az.length+1)=(t.den ρ).I:=by
   intro bs hb
   have:(az++[t])[az.length]?=some t:=by simp
   simp only [vl,pre_get this hb]
  refine ⟨hp,PosL.app (fun f hf bs hb=>?_) (hfs.mono hp),fun bs hb=>?_⟩
  ·exact hex (vl ρ bs) rfl _ (hv bs hb) (fun g hg=>hfs g hg bs (hp.trans hb)) ⟨bs,hp.trans hb,rfl⟩ f hf
  ·rw [one_ev];exact hv bs hb
def rangeOk (k:IntKind)(fs:List LF)(f:LF):Bool:=prv1 fs (subL f [(0,k.min)])&&prv1 fs (subL [(0,k.max)] f)
theorem wrap_id {k:IntKind}{n:Int}(h0:k.min≤n)(h1:n≤k.max):k.wrap n=n:=by
 cases k<;>simp only [IntKind.min,IntKind.max,IntKind.wrap,IntKind.signed,IntKind.bits] at *<;>simp at *<;>omega
theorem rangeOk_ok {k:IntKind}{v:Nat→Int}(hv:v 0=1){fs:List LF}(hfs:∀f∈fs,0≤f.ev v){f:LF}(h:rangeOk k fs f=true):k.wrap (f.ev v)=f.ev v:=by
 unfold rangeOk at h
 rw [Bool.and_eq_true] at h
 have h1:=prv1_ok hv hfs h.1
 have h2:=prv1_ok hv hfs h.2
 rw [subL_ev] at h1 h2
 simp only [LF.ev,hv] at h1 h2
 exact wrap_id (by omega) (by omega)
def exQuo (n:Nat)(f:LF)(c:Int):List LF:=[[(n,1)],subL f (scl c [(n,1)]),subL (addL (scl c [(n,1)]) [(0,c-1)]) f]
def exRem (n:Nat)(f:LF)(c:Int):List LF:=[[(n,1)],subL [(0,c-1)] [(n,1)],subL f [(n,1)]]
def exShr (n:Nat)(f:LF)(c:Int):List LF:=[subL f (scl c [(n,1)]),subL (addL (scl c [(n,1)]) [(0,c-1)]) f]
def exNN (n:Nat):List LF:=[[(n,1)]]
def exByte (n:Nat):List LF:=[[(n,1)],subL [(0,255)] [(n,1)]]
def noEx (_:Nat):List LF:=[]
def posLit : Int→Bool
 | .ofNat (_+1)=>true
 |_=>false
theorem posLit_iff {c:Int}:posLit c=true↔0<c:=by
 cases c with
 |ofNat n=>cases n<;>simp [posLit]<;>omega
 |negSucc n=>simp [posLit]
def litI : Tm→Option Int
 | .li c=>some c
 |_=>none
theorem litI_ok {t:Tm}{c:Int}(h:litI t=some c):t=.li c:=by
 cases t<;>simp [litI] at h
 subst h;rfl
def linB (o:BinOp)(k:IntKind)(x y:Tm)(rx ry:LR):LR:=
 let t:Tm:=.bin o (.int k) x y
 match o with
 | .add=>let f:=addL rx.f ry.f;bif rangeOk k ry.fs f then ⟨ry.az,ry.fs,f⟩ else atomL t noEx ry.az ry.fs
 | .sub=>let f:=subL rx.f ry.f;bif rangeOk k ry.fs f then ⟨ry.az,ry.fs,f⟩ else atomL t noEx ry.az ry.fs
 | .mul=>match litI y with
  |some c=>let f:=scl c rx.f;bif rangeOk k ry.fs f then ⟨ry.az,ry.fs,f⟩ else atomL t noEx ry.az ry.fs
  |none=>match litI x with
   |some c=>let f:=scl c ry.f;bif rangeOk k ry.fs f then ⟨ry.az,ry.fs,f⟩ else atomL t noEx ry.az ry.fs
   |none=>atomL t noEx ry.az ry.fs
 | .quo=>match litI y with
  |some c=>bif posLit c&&(prv1 ry.fs rx.f&&rangeOk k ry.fs rx.f) then atomL t (fun n=>exQuo n rx.f c) ry.az ry.fs else atomL t noEx ry.az ry.fs
  |none=>atomL t noEx ry.az ry.fs
 | .rem=>match litI y with
  |some c=>bif posLit c&&prv1 ry.fs rx.f then atomL t (fun n=>exRem n rx.f c) ry.az ry.fs else atomL t noEx ry.az ry.fs
  |none=>atomL t noEx ry.az ry.fs
 | .shr=>match litI y with
  |some c=>bif Nat.beq c.toNat 1 then atomL t (fun n=>exShr n rx.f 2) ry.az ry.fs else atomL t noEx ry.az ry.fs
  |none=>atomL t noEx ry.az ry.fs
 |_=>atomL t noEx ry.az ry.fs
def chosen (ks:Pc):Tm→Tm
 | .ite c x y=>match ks.known c with
  |some true=>chosen ks x
  |some false=>chosen ks y
  |none=>.ite c x y
 |t=>t
theorem chosen_den {ρ:List AV}{ks:Pc}(hk:ks.holds ρ):∀{t:Tm},(chosen ks t).den ρ=t.den ρ:=by
 intro t
 induction t with
 |ite c x y _ ihx ihy=>
  simp only [chosen]
  split
  ·rename_i h
   rw [ihx,Tm.den_ite,Pc.known_holds hk h];rfl
  ·rename_i h
   rw [ihy,Tm.den_ite,Pc.known_holds hk h];rfl
  ·rfl
 |_=>rfl
def exUp (l:List UInt8)(n:Nat):List LF:=fNat l.length fun m=>[[(n,1)],subL [(0,(m:Int))] [(n,1)]]
def litS : Tm→Option (List UInt8)
 | .ls l=>some l
 |_=>none
theorem litS_ok {t:Tm}{l:List UInt8}(h:litS t=some l):t=.ls l:=by
 cases t<;>simp [litS] at h;subst h;rfl
def linS (ks:Pc):Tm→List Tm→List LF→LR
 | .ls l,az,fs=>⟨az,fs,fNat l.length fun n=>cns 0 (.ofNat n) []⟩
 | .bin o k x y,az,fs=>match o with
  | .add=>match k with
   | .str=>match linS ks x az fs with
    |⟨as1,fs1,f1⟩=>match linS ks y as1 fs1 with
     |⟨as2,fs2,f2⟩=>⟨as2,fs2,addL f1 f2⟩
   |k=>atomL (.slen (.bin .add k x y)) exNN az fs
  |o=>atomL (.slen (.bin o k x y)) exNN az fs
 | .ite c x y,az,fs=>match ks.known c with
  |some true=>linS ks x az fs
  |some false=>linS ks y az fs
  |none=>atomL (.slen (.ite c x y)) exNN az fs
 | .ssub x lo hi,az,fs=>match litS x with
  |some l=>atomL (.slen (.ssub x lo hi)) (exUp l) az fs
  |none=>atomL (.slen (.ssub x lo hi)) exNN az fs
 |t,az,fs=>atomL (.slen t) exNN az fs
def lin (ks:Pc):Tm→List Tm→List LF→LR
 | .li c,az,fs=>⟨az,fs,cns 0 c []⟩
 | .bin o kd x y,az,fs=>match kd with
  | .int k=>match lin ks x az fs with
   |⟨as1,fs1,f1⟩=>match lin ks y as1 fs1 with
    |⟨as2,fs2,f2⟩=>linB o k x y ⟨as1,fs1,f1⟩ ⟨as2,fs2,f2⟩
  |kd=>atomL (.bin o kd x y) noEx az fs
 | .conv k x,az,fs=>match lin ks x az fs with
  |⟨as1,fs1,f1⟩=>bif rangeOk k fs1 f1 then ⟨as1,fs1,f1⟩ else atomL (.conv k x) noEx as1 fs1
 | .ite c x y,az,fs=>match ks.known c with
  |some true=>lin ks x az fs
  |some false=>lin ks y az fs
  |none=>atomL (.ite c x y) noEx az fs
 | .rlen x,az,fs=>match chosen ks x with
  | .nl=>⟨az,fs,[]⟩
  |x'=>atomL (.rlen x') exNN az fs
 | .slen x,az,fs=>linS ks x az fs
 | .byte x i,az,fs=>atomL (.byte x i) exByte az fs
 |t,az,fs=>atomL t noEx az fs
theorem noEx_ok {ρ:List AV}{t:Tm}{az:List Tm}{fs:List LF}(hfs:PosL ρ az fs):LROk ρ az (atomL t noEx az fs) (t.den ρ).I:=atomL_ok hfs (fun _ _ _ _ _ _ f hf=>by simp [noEx] at hf)
theorem LROk.up {ρ:List AV}{az bs:List Tm}{r:LR}{x:Int}(hp:az <+: bs)(h:LROk ρ bs r x):LROk ρ az r x:=⟨hp.trans h.1,h.2⟩
theorem linW {ρ:List AV}{az:List Tm}{fs:List LF}{k:IntKind}{f:LF}{x:Int}{t:Tm}(hfs:PosL ρ az fs)(hf:Hold ρ az f x)(ht:(t.den ρ).I=k.wrap x):LROk ρ az (bif rangeOk k fs f then ⟨az,fs,f⟩ else atomL t noEx az fs) (t.den ρ).I:=by
 cases h:rangeOk k fs f
 ·exact noEx_ok hfs
 ·refine ⟨List.prefix_refl _,hfs,fun bs hb=>?_⟩
  rw [ht,← hf bs hb]
  exact (rangeOk_ok rfl (fun g hg=>hfs g hg bs hb) h).symm
theorem Hold.add {ρ:List AV}{az:List Tm}{f g:LF}{x y:Int}(h:Hold ρ az f x)(k:Hold ρ az g y):Hold ρ az (addL f g) (x+y):=fun bs hb=>by rw [addL_ev,h bs hb,k bs hb]
theorem Hold.sub {ρ:List AV}{az:List Tm}{f g:LF}{x y:Int}(h:Hold ρ az f x)(k:Hold ρ az g y):Hold ρ az (subL f g) (x-y):=fun bs hb=>by rw [subL_ev,h bs hb,k bs hb]
theorem Hold.scl {ρ:List AV}{az:List Tm}{f:LF}{x c:Int}(h:Hold ρ az f x):Hold ρ az (Go.Fw.scl c f) (c*x):=fun bs hb=>by rw [scl_ev,h bs hb]
theorem linB_ok {ρ:List AV}{o:BinOp}{k:IntKind}{x y:Tm}{rx ry:LR}(h1:Hold ρ rx.az rx.f (x.den ρ).I)(hp:rx.az <+: ry.az)(h2:Hold ρ ry.az ry.f (y.den ρ).I)(hfs:PosL ρ ry.az ry.fs) :
  LROk ρ ry.az (linB o k x y rx ry) ((Tm.bin o (.int k) x y).den ρ).I:=by
 have h1':=h1.mono hp
 unfold linB
 cases o<;>dsimp only
 case add=>exact linW hfs (h1'.add h2) rfl
 case sub=>exact linW hfs (h1'.sub h2) rfl
 case mul=>
  split
  ·rename_i c hc
   have:=litI_ok hc;subst this
   exact linW hfs (h1'.scl (c:=c)) (by show k.wrap ((x.den ρ).I*c)=_;rw [Int.mul_comm])
  ·split
   ·rename_i c hc
    have:=litI_ok hc;subst this
    exact linW hfs (h2.scl (c:=c)) rfl
   ·exact noEx_ok hfs
 case quo=>
  split
  ·rename_i c hc
   have:=litI_ok hc;subst this
   cases hq:posLit c&&(prv1 ry.fs rx.f&&rangeOk k ry.fs rx.f)
   ·exact noEx_ok hfs
   ·simp only [Bool.and_eq_true] at hq
    obtain ⟨q1,q2,q3⟩:=hq
    rw [posLit_iff] at q1
    rw [cond_true]
    refine atomL_ok hfs fun v hv n hn hg hbs f hf=>?_
    obtain ⟨bs,hb,rfl⟩:=hbs
    have a1:=prv1_ok hv hg q2
    have a2:=rangeOk_ok hv hg q3
    have e:=h1' bs hb
    rw [e] at a1 a2
    have hmax:(x.den ρ).I≤k.max∧k.min≤0:=by
     unfold rangeOk at q3
     rw [Bool.and_eq_true] at q3
     have h2:=prv1_ok hv hg q3.2
     rw [subL_ev,e] at h2
     simp only [LF.ev,hv] at h2
     exact ⟨by omega,by cases k<;>decide⟩
    have hn':(vl ρ bs) n=(x.den ρ).I / c:=by
     rw [hn]
     show k.wrap ((x.den ρ).I.tdiv c)=_
     rw [Int.tdiv_eq_ediv_of_nonneg a1]
     have b1:0≤(x.den ρ).I / c:=Int.ediv_nonneg a1 (by omega)
     have b2:(x.den ρ).I / c≤(x.den ρ).I:=Int.ediv_le_self _ a1
     exact wrap_id (by omega) (by omega)
    have b1:0≤(x.den ρ).I / c:=Int.ediv_nonneg a1 (by omega)
    have b3:=Int.mul_ediv_add_emod (x.den ρ).I c
    have b4:=Int.emod_nonneg (x.den ρ).I (show c≠0 by omega)
    have b5:=Int.emod_lt_of_pos (x.den ρ).I q1
    simp only [exQuo,List.mem_cons,List.not_mem_nil,or_false] at hf
    rcases hf with rfl|rfl|rfl
    ·rw [one_ev,hn'];exact b1
    ·rw [subL_ev,scl_ev,one_ev,e,hn'];omega
    ·rw [subL_ev,addL_ev,scl_ev,one_ev,e,hn']
     simp only [LF.ev,hv];omega
  ·exact noEx_ok hfs
 case rem=>
  split
  ·rename_i c hc
   have:=litI_ok hc;subst this
   cases hq:posLit c&&prv1 ry.fs rx.f
   ·exact noEx_ok hfs
   ·simp only [Bool.and_eq_true] at hq
    obtain ⟨q1,q2⟩:=hq
    rw [posLit_iff] at q1
    rw [cond_true]
    refine atomL_ok hfs fun v hv n hn hg hbs f hf=>?_
    obtain ⟨bs,hb,rfl⟩:=hbs
    have a1:=prv1_ok hv hg q2
    have e:=h1' bs hb
    rw [e] at a1
    have hn':(vl ρ bs) n=(x.den ρ).I % c:=by
     rw [hn]
     show (x.den ρ).I.tmod c=_
     exact Int.tmod_eq_emod_of_nonneg a1
    have b4:=Int.emod_nonneg (x.den ρ).I (show c≠0 by omega)
    have b5:=Int.emod_lt_of_pos (x.den ρ).I q1
    have b3:=Int.mul_ediv_add_emod (x.den ρ).I c
    have b6:0≤c*((x.den ρ).I / c):=Int.mul_nonneg (by omega) (Int.ediv_nonneg a1 (by omega))
    simp only [exRem,List.mem_cons,List.not_mem_nil,or_false] at hf
    rcases hf with rfl|rfl|rfl
    ·rw [one_ev,hn'];exact b4
    ·rw [subL_ev,one_ev,hn'];simp only [LF.ev,hv];omega
    ·rw [subL_ev,one_ev,e,hn'];omega
  ·exact noEx_ok hfs
 case shr=>
  split
  ·rename_i c hc
   have:=litI_ok hc;subst this
   cases hq:Nat.beq c.toNat 1
   ·exact noEx_ok hfs
   ·have hc1:c.toNat=1:=Nat.eq_of_beq_eq_true hq
    rw [cond_true]
    refine atomL_ok hfs fun v hv n hn hg hbs f hf=>?_
    obtain ⟨bs,hb,rfl⟩:=hbs
    have e:=h1' bs hb
    have hn':(vl ρ bs) n=(x.den ρ).I / 2:=by
     rw [hn]
     show (x.den ρ).I.fdiv (2 ^ (min c.toNat k.bits))=_
     rw [hc1,Int.fdiv_eq_ediv_of_nonneg _ (Int.pow_nonneg (by omega))]
     cases k<;>rfl
    simp only [exShr,List.mem_cons,List.not_mem_nil,or_false] at hf
    rcases hf with rfl|rfl
    ·rw [subL_ev,scl_ev,one_ev,e,hn'];omega
    ·rw [subL_ev,addL_ev,scl_ev,one_ev,e,hn']
     simp only [LF.ev,hv];omega
  ·exact noEx_ok hfs
 all_goals exact noEx_ok hfs
theorem exNN_ok {ρ:List AV}{x:Tm}{az:List Tm}{fs:List LF}(hfs:PosL ρ az fs):LROk ρ az (atomL (.slen x) exNN az fs) ((Tm.slen x).den ρ).I:=by
 refine atomL_ok hfs fun v hv n hn hg hbs f hf=>?_
 simp only [exNN,List.mem_cons,List.not_mem_nil,or_false] at hf
 subst hf
 rw [one_ev,hn]
 exact Int.natCast_nonneg _
theorem linS_ok {ρ:List AV}{ks:Pc}(hk:ks.holds ρ):∀{t:Tm} {az:List Tm} {fs:List LF},PosL ρ az fs→LROk ρ az (linS ks t az fs) ((Tm.slen t).den ρ).I:=by
 intro t
 induction t with
 |ls l=>exact fun {az fs} hfs=>⟨List.prefix_refl _,hfs,fun bs hb=>by simp only [linS,fNat_eq,cns_ev];simp [LF.ev,vl,Tm.den,D.I,D.S,sLen]⟩
 |bin o k x y ihx ihy=>
  intro az fs hfs
  cases o<;>first|exact exNN_ok hfs|skip
  cases k<;>first|exact exNN_ok hfs|skip
  obtain ⟨a1,a2,a3⟩:=ihx hfs
  obtain ⟨b1,b2,b3⟩:=ihy (az:=(linS ks x az fs).az) (fs:=(linS ks x az fs).fs) a2
  refine ⟨a1.trans b1,b2,fun bs hb=>?_⟩
  have h1:=a3.mono b1 bs hb
  have h2:=b3 bs hb
  show LF.ev _ (addL _ _)=_
  rw [addL_ev,h1,h2]
  simp [Tm.den,binD,D.I,D.S,sLen]
 |ite c x y _ ihx ihy=>
  intro az fs hfs
  simp only [linS]
  split
  ·rename_i h
   have:=Pc.known_holds hk h
   have e:((Tm.slen (.ite c x y)).den ρ).I=((Tm.slen x).den ρ).I:=by show (D.i (sLen ((Tm.ite c x y).den ρ).S)).I=_;rw [Tm.den_ite,this];rfl
   rw [e];exact ihx hfs
  ·rename_i h
   have:=Pc.known_holds hk h
   have e:((Tm.slen (.ite c x y)).den ρ).I=((Tm.slen y).den ρ).I:=by show (D.i (sLen ((Tm.ite c x y).den ρ).S)).I=_;rw [Tm.den_ite,this];rfl
   rw [e];exact ihy hfs
  ·exact exNN_ok hfs
 |ssub x lo hi _ _ _=>
  intro az fs hfs
  simp only [linS]
  split
  ·rename_i l hl
   have:=litS_ok hl;subst this
   refine atomL_ok hfs fun v hv n hn hg hbs f hf=>?_
   simp only [exUp,fNat_eq,List.mem_cons,List.not_mem_nil,or_false] at hf
   have hle:((Tm.slen (.ssub (.ls l) lo hi)).den ρ).I≤(l.length:Int):=by
    simp only [Tm.den,D.I,D.S,sLen]
    rw [List.length_take,List.length_drop]
    omega
   rcases hf with rfl|rfl
   ·rw [one_ev,hn];exact Int.natCast_nonneg _
   ·rw [subL_ev,one_ev,hn]
    simp only [LF.ev,hv];omega
  ·exact exNN_ok hfs
 |_=>intro az fs hfs;exact exNN_ok hfs
theorem lin_ok {ρ:List AV}{ks:Pc}(hk:ks.holds ρ):∀{t:Tm} {az:List Tm} {fs:List LF},PosL ρ az fs→LROk ρ az (lin ks t az fs) (t.den ρ).I:=by
 intro t
 induction t with
 |li c=>exact fun {az fs} hfs=>⟨List.prefix_refl _,hfs,fun bs hb=>by simp only [lin,cns_ev];simp [LF.ev,vl,Tm.den,D.I]⟩
 |bin o kd x y ihx ihy=>
  intro az fs hfs
  cases kd with
  |int k=>
   obtain ⟨a1,a2,a3⟩:=ihx hfs
   obtain ⟨b1,b2,b3⟩:=ihy (az:=(lin ks x az fs).az) (fs:=(lin ks x az fs).fs) a2
   exact LROk.up (a1.trans b1) (linB_ok (rx:=lin ks x az fs) a3 b1 b3 b2)
  |_=>exact noEx_ok hfs
 |conv k x ih=>
  intro az fs hfs
  obtain ⟨a1,a2,a3⟩:=ih hfs
  exact LROk.up a1 (linW a2 a3 rfl)
 |ite c x y _ ihx ihy=>
  intro az fs hfs
  simp only [lin]
  split
  ·rename_i h
   have:=Pc.known_holds hk h
   rw [Tm.den_ite,this];exact ihx hfs
  ·rename_i h
   have:=Pc.known_holds hk h
   rw [Tm.den_ite,this];exact ihy hfs
  ·exact noEx_ok hfs
 |rlen x _=>
  intro az fs hfs
  have e:((Tm.rlen x).den ρ).I=((Tm.rlen (chosen ks x)).den ρ).I:=by simp only [Tm.den,chosen_den hk]
  rw [e]
  simp only [lin]
  split
  ·rename_i hc
   rw [hc]
   exact ⟨List.prefix_refl _,hfs,fun bs hb=>rfl⟩
  refine atomL_ok hfs fun v hv n hn hg hbs f hf=>?_
  simp only [exNN,List.mem_cons,List.not_mem_nil,or_false] at hf
  subst hf
  rw [one_ev,hn]
  exact Int.natCast_nonneg _
 |slen x _=>intro az fs hfs;exact linS_ok hk hfs
 |byte x i _ _=>
  intro az fs hfs
  refine atomL_ok hfs fun v hv n hn hg hbs f hf=>?_
  have h0:((Tm.byte x i).den ρ).I=(((x.den ρ).S.getD (i.den ρ).I.toNat 0).toNat:Int):=rfl
  have h1:=UInt8.toNat_lt ((x.den ρ).S.getD (i.den ρ).I.toNat 0)
  simp only [exByte,List.mem_cons,List.not_mem_nil,or_false] at hf
  rcases hf with rfl|rfl
  ·rw [one_ev,hn,h0];omega
  ·rw [subL_ev,one_ev,hn,h0];simp only [LF.ev,hv];omega
 |_=>exact fun hfs=>noEx_ok hfs
def cmpF (o:BinOp)(b:Bool)(x y:LF):Option (List LF):=
 let one:LF:=[(0,1)]
 match o,b with
 | .lss,true=>some [subL (subL y x) one]
 | .lss,false=>some [subL x y]
 | .leq,true=>some [subL y x]
 | .leq,false=>some [subL (subL x y) one]
 | .gtr,true=>some [subL (subL x y) one]
 | .gtr,false=>some [subL y x]
 | .geq,true=>some [subL x y]
 | .geq,false=>some [subL (subL y x) one]
 | .eql,true=>some [subL x y,subL y x]
 | .neq,false=>some [subL x y,subL y x]
 |_,_=>none
def isDif (o:BinOp)(b:Bool):Bool:=match o,b with
 | .eql,false=>true
 | .neq,true=>true
 |_,_=>false
theorem cmpF_ok {o:BinOp}{k:IntKind}{b:Bool}{x y:LF}{X Y:D}{v:Nat→Int}(hv:v 0=1){l:List LF}(h:cmpF o b x y=some l)(hx:x.ev v=X.I)(hy:y.ev v=Y.I):(∀f∈l,0≤f.ev v)↔(binD o (.int k) X Y).B=b:=by
 have one:LF.ev v [(0,1)]=1:=by simp [LF.ev,hv]
 cases o<;>cases b<;>simp only [cmpF] at h<;>first|(cases h;done)|skip
 all_goals
  simp only [Option.some.injEq] at h
  subst h
  simp only [List.mem_cons,List.not_mem_nil,or_false,forall_eq_or_imp,forall_eq,subL_ev,hx,hy,one,binD,D.B,iEq,iNe,decide_eq_true_eq,decide_eq_false_iff_not,beq_iff_eq,bne_eq_false_iff_eq]
  omega
theorem isDif_ok {o:BinOp}{k:IntKind}{b:Bool}{X Y:D}(h:isDif o b=true):(binD o (.int k) X Y).B=b↔X.I≠Y.I:=by
 cases o<;>cases b<;>simp [isDif] at h<;>simp [binD,D.B,iEq,iNe]
structure AS where
 az:List Tm
 fs:List LF
def ASOk (ρ:List AV)(s:AS):Prop:=PosL ρ s.az s.fs
def addC (ks:Pc)(o:BinOp)(b:Bool)(x y:Tm)(s:AS):AS:=
 match lin ks x s.az s.fs with
 |⟨as1,fs1,f1⟩=>match lin ks y as1 fs1 with
  |⟨as2,fs2,f2⟩=>match cmpF o b f1 f2 with
   |some l=>⟨as2,l++fs2⟩
   |none=>bif isDif o b then
     bif prv1 fs2 (subL f1 f2) then ⟨as2,subL (subL f1 f2) [(0,1)]::fs2⟩ else bif prv1 fs2 (subL f2 f1) then ⟨as2,subL (subL f2 f1) [(0,1)]::fs2⟩ else ⟨as2,fs2⟩
    else ⟨as2,fs2⟩
def addT' (ks:Pc):Tm→Bool→AS→AS
 | .not x,b,s=>addT' ks x (!b) s
 | .and x y,b,s=>match b with
  |true=>addT' ks y true (addT' ks x true s)
  |false=>s
 | .or x y,b,s=>match b with
  |true=>s
  |false=>addT' ks y false (addT' ks x false s)
 | .bin o kd x y,b,s=>match kd with
  | .int _=>addC ks o b x y s
  |_=>s
 |_,_,s=>s
theorem addC_ok {ρ:List AV}{ks:Pc}(hk:ks.holds ρ){o:BinOp}{k:IntKind}{b:Bool}{x y:Tm}{s:AS}(hs:ASOk ρ s)(h:((Tm.bin o (.int k) x y).den ρ).B=b):ASOk ρ (addC ks o b x y s):=by
 obtain ⟨a1,a2,a3⟩:=lin_ok hk (t:=x) hs
 obtain ⟨b1,b2,b3⟩:=lin_ok hk (t:=y) (az:=(lin ks x s.az s.fs).az) (fs:=(lin ks x s.az s.fs).fs) a2
 have a3':=a3.mono b1
 unfold addC
 dsimp only
 split
 ·rename_i l hl
  exact PosL.app (fun f hf bs hb=>(cmpF_ok (k:=k) rfl hl (a3' bs hb) (b3 bs hb)).2 h f hf) b2
 ·cases hd:isDif o b
  ·exact b2
  ·have hne:=(isDif_ok (k:=k) hd).1 h
   simp only [cond_true]
   have one:∀bs,LF.ev (vl ρ bs) [(0,1)]=1:=by simp [LF.ev,vl]
   cases h1:prv1 (lin ks y (lin ks x s.az s.fs).az (lin ks x s.az s.fs).fs).fs (subL (lin ks x s.az s.fs).f (lin ks y (lin ks x s.az s.fs).az (lin ks x s.az s.fs).fs).f)
   ·simp only [cond_false]
    cases h2:prv1 (lin ks y (lin ks x s.az s.fs).az (lin ks x s.az s.fs).fs).fs (subL (lin ks y (lin ks x s.az s.fs).az (lin ks x s.az s.fs).fs).f (lin ks x s.az s.fs).f)
    ·exact b2
    ·refine PosL.cons (fun bs hb=>?_) b2
     have q:=prv1_pos b2 h2 bs hb
     rw [subL_ev,a3' bs hb,b3 bs hb] at q
     rw [subL_ev,subL_ev,a3' bs hb,b3 bs hb,one]
     omega
   ·refine PosL.cons (fun bs hb=>?_) b2
    have q:=prv1_pos b2 h1 bs hb
    rw [subL_ev,a3' bs hb,b3 bs hb] at q
    rw [subL_ev,subL_ev,a3' bs hb,b3 bs hb,one]
    omega
theorem addT'_ok {ρ:List AV}{ks:Pc}(hk:ks.holds ρ):∀{t:Tm} {b:Bool} {s:AS},ASOk ρ s→(t.den ρ).B=b→ASOk ρ (addT' ks t b s):=by
 intro t
 induction t with
 |not x ih=>exact fun hs h=>ih hs (by rw [← h];simp [Tm.den,D.B])
 |and x y ihx ihy=>
  intro b s hs h
  cases b
  ·exact hs
  ·have h':(x.den ρ).B=true∧(y.den ρ).B=true:=by simpa [Tm.den,D.B] using h
   exact ihy (ihx hs h'.1) h'.2
 |or x y ihx ihy=>
  intro b s hs h
  cases b
  ·have h':(x.den ρ).B=false∧(y.den ρ).B=false:=by simpa [Tm.den,D.B] using h
   exact ihy (ihx hs h'.1) h'.2
  ·exact hs
 |bin o kd x y _ _=>
  intro b s hs h
  cases kd with
  |int k=>exact addC_ok hk (k:=k) hs h
  |_=>exact hs
 |_=>exact fun hs _=>hs
def addAll (ks:Pc):Pc→AS→AS
 |[],s=>s
 |x::r,s=>addT' ks x.1 x.2 (addAll ks r s)
theorem addAll_ok {ρ:List AV}{ks:Pc}(hk:ks.holds ρ):∀{pc:Pc} {s:AS},pc.holds ρ→ASOk ρ s→ASOk ρ (addAll ks pc s)
 |[],s,_,hs=>hs
 |x::r,s,hp,hs=>addT'_ok hk (addAll_ok hk (fun y hy=>hp y (List.mem_cons_of_mem _ hy)) hs) (hp x (List.mem_cons_self ..))
def prvC (ks:Pc)(o:BinOp)(b:Bool)(x y:Tm)(s:AS):Bool:=
 match lin ks x s.az s.fs with
 |⟨as1,fs1,f1⟩=>match lin ks y as1 fs1 with
  |⟨as2,fs2,f2⟩=>match cmpF o b f1 f2 with
   |some l=>l.all (prv1 fs2)
   |none=>isDif o b&&(prv1 fs2 (subL (subL f1 f2) [(0,1)])||prv1 fs2 (subL (subL f2 f1) [(0,1)]))
def prvT (ks:Pc):Tm→Bool→AS→Bool
 | .lb v,b,_=>v == b
 | .not x,b,s=>prvT ks x (!b) s
 | .and x y,b,s=>match b with
  |true=>prvT ks x true s&&prvT ks y true s
  |false=>prvT ks x false s||prvT ks y false (addT' ks x true s)
 | .or x y,b,s=>match b with
  |true=>prvT ks x true s||prvT ks y true (addT' ks x false s)
  |false=>prvT ks x false s&&prvT ks y false s
 | .bin o kd x y,b,s=>match ks.known (.bin o kd x y) with
  |some v=>v == b
  |none=>match kd with
   | .int _=>prvC ks o b x y s
   |_=>false
 |t,b,_=>match ks.known t with
  |some v=>v == b
  |none=>false
theorem prvC_ok {ρ:List AV}{ks:Pc}(hk:ks.holds ρ){o:BinOp}{k:IntKind}{b:Bool}{x y:Tm}{s:AS}(hs:ASOk ρ s)(h:prvC ks o b x y s=true):((Tm.bin o (.int k) x y).den ρ).B=b:=by
 obtain ⟨a1,a2,a3⟩:=lin_ok hk (t:=x) hs
 obtain ⟨b1,b2,b3⟩:=lin_ok hk (t:=y) (az:=(lin ks x s.az s.fs).az) (fs:=(lin ks x s.az s.fs).fs) a2
 have a3':=a3.mono b1
 unfold prvC at h
 dsimp only at h
 have rf:=List.prefix_refl (lin ks y (lin ks x s.az s.fs).az (lin ks x s.az s.fs).fs).az
 split at h
 ·rename_i l hl
  rw [List.all_eq_true] at h
  exact (cmpF_ok (k:=k) rfl hl (a3' _ rf) (b3 _ rf)).1 fun f hf=>prv1_pos b2 (h f hf) _ rf
 ·rw [Bool.and_eq_true] at h
  refine (isDif_ok (k:=k) h.1).2 ?_
  have one:∀bs,LF.ev (vl ρ bs) [(0,1)]=1:=by simp [LF.ev,vl]
  have h2:=h.2
  rw [Bool.or_eq_true] at h2
  rcases h2 with h2|h2
  ·have q:=prv1_pos b2 h2 _ rf
   rw [subL_ev,subL_ev,a3' _ rf,b3 _ rf,one] at q
   intro e;omega
  ·have q:=prv1_pos b2 h2 _ rf
   rw [subL_ev,subL_ev,a3' _ rf,b3 _ rf,one] at q
   intro e;omega
theorem prvT_ok {ρ:List AV}{ks:Pc}(hk:ks.holds ρ):∀{t:Tm} {b:Bool} {s:AS},ASOk ρ s→prvT ks t b s=true→(t.den ρ).B=b:=by
 intro t
 have oth:∀{t:Tm} {b:Bool},(match ks.known t with|some v=>v == b|none=>false)=true→(t.den ρ).B=b:=by
  intro t b h
  split at h
  ·rename_i v hv
   rw [Pc.known_holds hk hv];simpa using h
  ·cases h
 induction t with
 |lb v=>exact fun hs h=>by simpa [prvT,Tm.den,D.B] using h
 |not x ih=>intro b s hs h;have:=ih (b:=!b) hs h;show (!(x.den ρ).B)=b;rw [this];simp
 |and x y ihx ihy=>
  intro b s hs h
  cases b
  ·simp only [prvT,Bool.or_eq_true] at h
   show ((x.den ρ).B&&(y.den ρ).B)=false
   cases hx:(x.den ρ).B
   ·rfl
   ·rcases h with h|h
    ·rw [ihx hs h] at hx;cases hx
    ·rw [ihy (addT'_ok hk hs hx) h];rfl
  ·simp only [prvT,Bool.and_eq_true] at h
   show ((x.den ρ).B&&(y.den ρ).B)=true
   rw [ihx hs h.1,ihy hs h.2];rfl
 |or x y ihx ihy=>
  intro b s hs h
  cases b
  ·simp only [prvT,Bool.and_eq_true] at h
   show ((x.den ρ).B||(y.den ρ).B)=false
   rw [ihx hs h.1,ihy hs h.2];rfl
  ·simp only [prvT,Bool.or_eq_true] at h
   show ((x.den ρ).B||(y.den ρ).B)=true
   cases hx:(x.den ρ).B
   ·rcases h with h|h
    ·rw [ihx hs h] at hx;cases hx
    ·rw [ihy (addT'_ok hk hs hx) h];rfl
   ·rfl
 |bin o kd x y _ _=>
  intro b s hs h
  simp only [prvT] at h
  split at h
  ·rename_i v hv
   rw [Pc.known_holds hk hv];simpa using h
  ·split at h
   ·exact prvC_ok hk hs h
   ·cases h
 |_=>exact fun hs h=>oth h
def iteOf : Tm→Option Tm
 | .ite c _ _=>some c
 | .bin _ _ x y=>match iteOf x with|some c=>some c|none=>iteOf y
 | .and x y=>match iteOf x with|some c=>some c|none=>iteOf y
 | .or x y=>match iteOf x with|some c=>some c|none=>iteOf y
 | .not x=>iteOf x
 | .conv _ x=>iteOf x
 | .rlen x=>iteOf x
 | .slen x=>iteOf x
 |_=>none
def iteOpen (ks:Pc):Pc→Option Tm
 |[]=>none
 |x::r=>match iteOf x.1 with
  |some c=>match ks.known c with|none=>some c|some _=>iteOpen ks r
  |none=>iteOpen ks r
def difT : Tm→Bool→Bool
 | .not t,b=>difT t (!b)
 | .bin o (.int _) _ _,b=>isDif o b
 |_,_=>false
def difs (F:Pc):Pc:=F.filter fun x=>difT x.1 x.2
def sumT : Tm→Bool
 | .not t=>sumT t
 | .and x y=>sumT x||sumT y
 | .or x y=>sumT x||sumT y
 | .bin o _ x y=>match o with
  | .lss | .leq | .gtr | .geq | .eql | .neq=>sumT x||sumT y
  |_=>true
 | .conv _ _=>true
 | .ite _ _ _=>true
 |_=>false
def asF (F:Pc):AS:=addAll F (difs F) (addAll F (F.filter fun x=>sumT x.1) (addAll F (F.filter fun x=>!(sumT x.1)) ⟨[],[]⟩))
theorem Pc.holds_filter {ρ:List AV}{F:Pc}{p:Tm×Bool→Bool}(h:F.holds ρ):Pc.holds ρ (F.filter p):=fun x hx=>h x (List.mem_filter.1 hx).1
theorem asF_ok {ρ:List AV}{F:Pc}(h:F.holds ρ):ASOk ρ (asF F):=addAll_ok h (Pc.holds_filter h) (addAll_ok h (Pc.holds_filter h) (addAll_ok h (Pc.holds_filter h) (fun f hf=>by cases hf)))
def prove : Nat→Pc→Tm→Bool
 |0,F,t=>prvT F t true (asF F)
 |n+1,F,t=>prvT F t true (asF F)||(match iteOpen F ((t,true)::F) with
  |none=>false
  |some c=>prove n ((c,true)::F) t&&prove n ((c,false)::F) t)
theorem prove_ok {ρ:List AV}{t:Tm}:∀{n:Nat} {F:Pc},prove n F t=true→F.holds ρ→(t.den ρ).B=true
 |0,F,h,hF=>prvT_ok hF (asF_ok hF) h
 |n+1,F,h,hF=>by
  simp only [prove,Bool.or_eq_true] at h
  rcases h with h|h
  ·exact prvT_ok hF (asF_ok hF) h
  ·split at h
   ·cases h
   ·rename_i c _
    rw [Bool.and_eq_true] at h
    cases hc:(c.den ρ).B
    ·exact prove_ok h.2 (Pc.holds_cons hc hF)
    ·exact prove_ok h.1 (Pc.holds_cons hc hF)
def contra (F:Pc):Bool:=match asF F with
 |⟨_,fs⟩=>fs.any fun f=>nonO (refuteF 3 fs f 40)
theorem contra_ok {ρ:List AV}{F:Pc}(h:contra F=true)(hF:F.holds ρ):False:=by
 have hs:=asF_ok hF
 unfold contra at h
 rw [List.any_eq_true] at h
 obtain ⟨f,hf,h⟩:=h
 unfold nonO at h
 split at h
 ·rename_i e
  have hp:∀g∈(asF F).fs,0≤g.ev (vl ρ (asF F).az):=fun g hg=>hs g hg _ (List.prefix_refl _)
  exact refuteF_ok rfl hp e (hp f hf)
 ·cases h
end Go.Fw
end
