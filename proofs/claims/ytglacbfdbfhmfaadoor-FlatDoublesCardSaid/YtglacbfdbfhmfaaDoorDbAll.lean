/- the law. Part of the proof of girandolelaw08.FlatDoubles. -/
import Derived.Test.YtglacbfdbfhmfaaDoorDb
set_option linter.unusedVariables false
set_option linter.unusedSimpArgs false
set_option maxRecDepth 1000000
namespace Go.Proofs
open Go Go.Abs
theorem db_s_1:sE (Db.text 1)=true:=by kernel_rfl
theorem db_p_1:dL (Db.text 1)=some (Db.nodes 1):=by kernel_rfl
theorem Ow (rec:RecT)(a:Int):proj3 (fe rec (gM a 1) [] ⟨[],0⟩)=some (.str (Db.text 1),.int .i64 (Db.sz 1:Int),⟨[],0⟩):=by kernel_rfl
theorem db_g_1:mL 1=true:=Db.gOk_db (by kernel_rfl) (by kernel_rfl) (by kernel_rfl) (by kernel_rfl)
theorem db_1:Low3 1:=⟨db_s_1,db_p_1,Ow,by kernel_rfl,by decide,by kernel_rfl,db_g_1,by kernel_rfl,by kernel_rfl⟩
theorem db_s_2:sE (Db.text 2)=true:=by kernel_rfl
theorem db_p_2:dL (Db.text 2)=some (Db.nodes 2):=by kernel_rfl
theorem Pn (rec:RecT)(a:Int):proj3 (fe rec (gM a 2) [] ⟨[],0⟩)=some (.str (Db.text 2),.int .i64 (Db.sz 2:Int),⟨[],0⟩):=by kernel_rfl
theorem db_g_2:mL 2=true:=Db.gOk_db (by kernel_rfl) (by kernel_rfl) (by kernel_rfl) (by kernel_rfl)
theorem db_2:Low3 2:=⟨db_s_2,db_p_2,Pn,by kernel_rfl,by decide,by kernel_rfl,db_g_2,by kernel_rfl,by kernel_rfl⟩
theorem db_s_3:sE (Db.text 3)=true:=by kernel_rfl
theorem db_p_3:dL (Db.text 3)=some (Db.nodes 3):=by kernel_rfl
theorem Pa (rec:RecT)(a:Int):proj3 (fe rec (gM a 3) [] ⟨[],0⟩)=some (.str (Db.text 3),.int .i64 (Db.sz 3:Int),⟨[],0⟩):=by kernel_rfl
theorem db_g_3:mL 3=true:=Db.gOk_db (by kernel_rfl) (by kernel_rfl) (by kernel_rfl) (by kernel_rfl)
theorem db_3:Low3 3:=⟨db_s_3,db_p_3,Pa,by kernel_rfl,by decide,by kernel_rfl,db_g_3,by kernel_rfl,by kernel_rfl⟩
theorem db_s_4:sE (Db.text 4)=true:=by kernel_rfl
theorem db_p_4:dL (Db.text 4)=some (Db.nodes 4):=by kernel_rfl
theorem Nb (rec:RecT)(a:Int):proj3 (fe rec (gM a 4) [] ⟨[],0⟩)=some (.str (Db.text 4),.int .i64 (Db.sz 4:Int),⟨[],0⟩):=by kernel_rfl
theorem db_g_4:mL 4=true:=Db.gOk_db (by kernel_rfl) (by kernel_rfl) (by kernel_rfl) (by kernel_rfl)
theorem db_4:Low3 4:=⟨db_s_4,db_p_4,Nb,by kernel_rfl,by decide,by kernel_rfl,db_g_4,by kernel_rfl,by kernel_rfl⟩
theorem db_s_5:sE (Db.text 5)=true:=by kernel_rfl
theorem db_p_5:dL (Db.text 5)=some (Db.nodes 5):=by kernel_rfl
theorem OJ (rec:RecT)(a:Int):proj3 (fe rec (gM a 5) [] ⟨[],0⟩)=some (.str (Db.text 5),.int .i64 (Db.sz 5:Int),⟨[],0⟩):=by kernel_rfl
theorem db_g_5:mL 5=true:=Db.gOk_db (by kernel_rfl) (by kernel_rfl) (by kernel_rfl) (by kernel_rfl)
theorem db_5:Low3 5:=⟨db_s_5,db_p_5,OJ,by kernel_rfl,by decide,by kernel_rfl,db_g_5,by kernel_rfl,by kernel_rfl⟩
theorem db_s_6:sE (Db.text 6)=true:=by kernel_rfl
theorem db_p_6:dL (Db.text 6)=some (Db.nodes 6):=by kernel_rfl
theorem Pe (rec:RecT)(a:Int):proj3 (fe rec (gM a 6) [] ⟨[],0⟩)=some (.str (Db.text 6),.int .i64 (Db.sz 6:Int),⟨[],0⟩):=by kernel_rfl
theorem db_g_6:mL 6=true:=Db.gOk_db (by kernel_rfl) (by kernel_rfl) (by kernel_rfl) (by kernel_rfl)
theorem db_6:Low3 6:=⟨db_s_6,db_p_6,Pe,by kernel_rfl,by decide,by kernel_rfl,db_g_6,by kernel_rfl,by kernel_rfl⟩
theorem db_s_7:sE (Db.text 7)=true:=by kernel_rfl
theorem db_p_7:dL (Db.text 7)=some (Db.nodes 7):=by kernel_rfl
theorem Ot (rec:RecT)(a:Int):proj3 (fe rec (gM a 7) [] ⟨[],0⟩)=some (.str (Db.text 7),.int .i64 (Db.sz 7:Int),⟨[],0⟩):=by kernel_rfl
theorem db_g_7:mL 7=true:=Db.gOk_db (by kernel_rfl) (by kernel_rfl) (by kernel_rfl) (by kernel_rfl)
theorem db_7:Low3 7:=⟨db_s_7,db_p_7,Ot,by kernel_rfl,by decide,by kernel_rfl,db_g_7,by kernel_rfl,by kernel_rfl⟩
theorem db_s_8:sE (Db.text 8)=true:=by kernel_rfl
theorem db_p_8:dL (Db.text 8)=some (Db.nodes 8):=by kernel_rfl
theorem OT (rec:RecT)(a:Int):proj3 (fe rec (gM a 8) [] ⟨[],0⟩)=some (.str (Db.text 8),.int .i64 (Db.sz 8:Int),⟨[],0⟩):=by kernel_rfl
theorem db_g_8:mL 8=true:=Db.gOk_db (by kernel_rfl) (by kernel_rfl) (by kernel_rfl) (by kernel_rfl)
theorem db_8:Low3 8:=⟨db_s_8,db_p_8,OT,by kernel_rfl,by decide,by kernel_rfl,db_g_8,by kernel_rfl,by kernel_rfl⟩
theorem db_s_9:sE (Db.text 9)=true:=by kernel_rfl
theorem db_p_9:dL (Db.text 9)=some (Db.nodes 9):=by kernel_rfl
theorem Ox (rec:RecT)(a:Int):proj3 (fe rec (gM a 9) [] ⟨[],0⟩)=some (.str (Db.text 9),.int .i64 (Db.sz 9:Int),⟨[],0⟩):=by kernel_rfl
theorem db_g_9:jI (Db.nodes 9) [97]=true:=Db.gN_db (by kernel_rfl) (by kernel_rfl) (by kernel_rfl)
theorem db_9:High3 9:=⟨db_s_9,db_p_9,Ox,by kernel_rfl,by decide,by kernel_rfl,db_g_9,by kernel_rfl,by kernel_rfl⟩
theorem db_s_10:sE (Db.text 10)=true:=by kernel_rfl
theorem db_p_10:dL (Db.text 10)=some (Db.nodes 10):=by kernel_rfl
theorem Ix (rec:RecT)(a:Int):proj3 (fe rec (gM a 10) [] ⟨[],0⟩)=some (.str (Db.text 10),.int .i64 (Db.sz 10:Int),⟨[],0⟩):=by kernel_rfl
theorem db_g_10:jI (Db.nodes 10) [97]=true:=Db.gN_db (by kernel_rfl) (by kernel_rfl) (by kernel_rfl)
theorem db_10:High3 10:=⟨db_s_10,db_p_10,Ix,by kernel_rfl,by decide,by kernel_rfl,db_g_10,by kernel_rfl,by kernel_rfl⟩
theorem db_s_11:sE (Db.text 11)=true:=by kernel_rfl
theorem db_p_11:dL (Db.text 11)=some (Db.nodes 11):=by kernel_rfl
theorem H7 (rec:RecT)(a:Int):proj3 (fe rec (gM a 11) [] ⟨[],0⟩)=some (.str (Db.text 11),.int .i64 (Db.sz 11:Int),⟨[],0⟩):=by kernel_rfl
theorem db_g_11:jI (Db.nodes 11) [97]=true:=Db.gN_db (by kernel_rfl) (by kernel_rfl) (by kernel_rfl)
theorem db_11:High3 11:=⟨db_s_11,db_p_11,H7,by kernel_rfl,by decide,by kernel_rfl,db_g_11,by kernel_rfl,by kernel_rfl⟩
theorem db_s_12:sE (Db.text 12)=true:=by kernel_rfl
theorem db_p_12:dL (Db.text 12)=some (Db.nodes 12):=by kernel_rfl
theorem Iz (rec:RecT)(a:Int):proj3 (fe rec (gM a 12) [] ⟨[],0⟩)=some (.str (Db.text 12),.int .i64 (Db.sz 12:Int),⟨[],0⟩):=by kernel_rfl
theorem db_g_12:jI (Db.nodes 12) [97]=true:=Db.gN_db (by kernel_rfl) (by kernel_rfl) (by kernel_rfl)
theorem db_12:High3 12:=⟨db_s_12,db_p_12,Iz,by kernel_rfl,by decide,by kernel_rfl,db_g_12,by kernel_rfl,by kernel_rfl⟩
theorem db_all:∀ k,k < 12→Low3 (k + 1)∨High3 (k + 1):=by
 intro k hk
 match k,hk with
 | 0,_=>exact .inl db_1
 | 1,_=>exact .inl db_2
 | 2,_=>exact .inl db_3
 | 3,_=>exact .inl db_4
 | 4,_=>exact .inl db_5
 | 5,_=>exact .inl db_6
 | 6,_=>exact .inl db_7
 | 7,_=>exact .inl db_8
 | 8,_=>exact .inr db_9
 | 9,_=>exact .inr db_10
 | 10,_=>exact .inr db_11
 | 11,_=>exact .inr db_12
 | k + 12,hk=>omega
theorem FY (a:Int):∃ M,eP CC M∧orc CC M 3 [.int .i64 a] []=some (.ret (.bool true) [] 0):=Ta a db_all
end Go.Proofs
