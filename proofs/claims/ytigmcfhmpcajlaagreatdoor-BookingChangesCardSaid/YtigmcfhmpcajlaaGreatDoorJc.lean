/- Facts of the whole program, each by itself (the kernel's memory does not hold two of them). Conditions: none. -/
import Derived.Test.YtigmcfhmpcajlaaGreatDoorJb
import Derived.Test.YtigmcfhmpcajlaaGreatDoorTie
import Derived.Test.YtigmcfhmpcajlaaGreatDoorCards
import Derived.SevenTiedAt
namespace Go.Proofs.YtigmcfhmpcajlaaGreatDoor
open Go.ChangeShapes Go.WideShapes Go.ChangeAt Go.RowKit Go.Am
theorem Qx6:mapsRowed Tryz.prog=true:=by kernel_rfl
theorem Qxq:(Tryz.prog.stops== [])=true:=by kernel_rfl
theorem QxL:(Tryz.prog.stopKnobs== [])=true:=by kernel_rfl
theorem QyL:(true==Tryz.prog.plainKeys)=true:=by kernel_rfl
theorem Qxs:Tryz.prog.stopsHeard=true:=by kernel_rfl
theorem QxD:Tryz.prog.mayEnter=true:=by kernel_rfl
theorem QwI:(false==Tryz.prog.liftsFinal)=true:=by kernel_rfl
theorem Qzg:(Tryz.prog.make==some Rows.topBookingsRow.make)=true:=by kernel_rfl
theorem QxW:true=Tryz.prog.looks []:=by kernel_rfl
theorem Qzm:Tryz.prog.mainIs=some (true, "c79a00f04bf7c5b077a218d23585edd8296ddf2471633b0b5a43e815602e44d2".toList):=by kernel_rfl
theorem QjG:reachBytes≤281474976710656:=by decide
theorem Qbb {ty:TypeId→List CV→Prop} {t:TypeId} {ts:List TypeId} {l:List CV} (h:TyF ty (t::ts) l):∃p r,l=p++r∧ty t p∧TyF ty ts r:=h
theorem Qjn {ty:TypeId→List CV→Prop} {l:List CV} (h:TyF ty [] l):l= []:=h
end Go.Proofs.YtigmcfhmpcajlaaGreatDoor
