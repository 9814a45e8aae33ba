/-
  Parts of the proofs for this seat: TB.
-/
import Derived.Test.YtgbipcfdgfjplaaGreatP20
set_option linter.unusedSectionVars false
set_option linter.unusedSimpArgs false
set_option linter.unusedVariables false
set_option maxRecDepth 100000
set_option maxHeartbeats 4000000
namespace Go.Proofs.YtgbipcfdgfjplaaGreat
open Go.AM
theorem ZzC(a:Int):ZbR a=some (.agg [.own 0],[.arr 97 3 true (([(⟨1,a,0⟩:Zj)]).map Zj.c)]):=Z6X _ _ rfl
def Wo(a b:List Zj)(k v:Int):List Zj:=a++b++[(⟨k,0,v⟩:Zj)]
def Xn(a:List Zj)(v:Int):List Zj:=a++[(⟨2,0,v⟩:Zj)]
theorem Zdv(a b:Zo)(k v:Int)(ha:a.Steps.length<=1000)(hb:b.Steps.length<=1000):Qn a b k v=some (.agg [.own 0],[.arr 97 3 true ((Wo a.Steps b.Steps k v).map Zj.c)]) :=
 Z6Y _ _ _ _ _ ⟨by omega,by omega,by omega,rfl⟩
theorem Zjr(a:Zo)(v:Int)(ha:a.Steps.length<=1000):ZbV a v=some (.agg [.own 0],[.arr 97 3 true ((Xn a.Steps v).map Zj.c)]) :=
 Z7d _ _ _ ⟨by omega,by omega,rfl⟩
end Go.Proofs.YtgbipcfdgfjplaaGreat
