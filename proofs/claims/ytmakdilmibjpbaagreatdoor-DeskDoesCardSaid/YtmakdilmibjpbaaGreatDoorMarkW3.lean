/- The walks of ShopLaws3: written by a program of ours (gen.py) over the engine. The walks of MarkW3: written by a program of ours (gen.py) over the engine. -/
import Derived.Test.YtmakdilmibjpbaaGreatDoorWants
import Derived.Test.YtmakdilmibjpbaaGreatDoorFacts
import Derived.Test.YtmakdilmibjpbaaGreatDoorKeepW2
import Derived.Test.YtmakdilmibjpbaaGreatDoorBoothW
import Derived.Test.YtmakdilmibjpbaaGreatDoorElt
import Derived.Test.YtmakdilmibjpbaaGreatDoorMarkW2
namespace Go.Proofs.YtmakdilmibjpbaaGreatDoor
open Go Go.RowKit
set_option linter.unusedVariables false
set_option linter.unusedSimpArgs false
set_option maxRecDepth 20000
end Go.Proofs.YtmakdilmibjpbaaGreatDoor
namespace Go.Proofs.YtmakdilmibjpbaaGreatDoor
open Go Go.RowKit
set_option linter.unusedVariables false
set_option linter.unusedSimpArgs false
set_option maxRecDepth 20000
theorem FnC.market{P:Program}{M:Amb}{f:FuncId}{vs:List Value}{ret:Value}{b:Nat}{t:TownS}(h:∀ lv ov ts p0 p1 p2 bv,ts.length=t.b.l.length→FnC P M f vs ret (mkL b t lv ov ts p0 p1 p2 bv) (mkL b t lv ov ts p0 p1 p2 bv)):FnC P M f vs ret [marketP b t] [marketP b t]:=fun R w ho=>by
  obtain⟨lv,ov,ts,p0,p1,p2,bv,hl,ho'⟩:=marketP_open (show Own M (marketP b t::R) w from ho)
  refine (h lv ov ts p0 p1 p2 bv hl R w ho').mono fun _ _ ⟨v,H',e,⟨h1,h2⟩,ho2⟩=>⟨v,_,e,⟨h1,rfl⟩,?_⟩
  subst h2
  have ho3:Own M (blk b (lv::ov::mkR t.ws p0 p1 p2 bv) 73::sl lv 148 4 (List.zipWith rowD ts t.b.l)::sl ov 3 1 (t.b.order.map rI)::manyP bdealP ts t.b.l::manyP penP [p0,p1,p2] t.ks::sl bv 139 6 (t.post.map rM)::R) _:=ho2
  exact ho3.ent (marketP_close (b:=b) (t:=t) lv ov ts p0 p1 p2 bv hl rfl rfl rfl rfl)
theorem market_World (M:Amb)(b:Nat)(t:TownS)(hT:TInv t):FnC Tryz.prog M 38 [ptr b] (.agg ((worldT t).map vI).toArray) [marketP b t] [marketP b t]:=FnC.market fun lv ov ts p0 p1 p2 bv hl=>market_World_o M b t lv ov ts p0 p1 p2 bv hl hT
theorem market_Serial (M:Amb)(b:Nat)(t:TownS)(hT:TInv t):FnC Tryz.prog M 40 [ptr b] (.tuple #[.agg ((serialT t).1.map vI).toArray,.int .i64 (serialT t).2]) [marketP b t] [marketP b t]:=FnC.market fun lv ov ts p0 p1 p2 bv hl=>market_Serial_o M b t lv ov ts p0 p1 p2 bv hl hT
end Go.Proofs.YtmakdilmibjpbaaGreatDoor
