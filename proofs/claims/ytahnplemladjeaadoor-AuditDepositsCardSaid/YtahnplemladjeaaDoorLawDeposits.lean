/- recyclinglaw59.AuditDeposits returns true at all books. -/
import Derived.Test.YtahnplemladjeaaDoorLawDepositsOf
import Derived.Test.YtahnplemladjeaaDoorDep3
namespace Go.Proofs.YtahnplemladjeaaDoor
open Go.RowKit

theorem lawDeposits_any (now hh cc as_ em ta gap tr ins bins ba co fe bi po : Value) (prA : Option Addr) (prc : Nat) (pl : List Prd) (saA : Option Addr) (sac : Nat) (sl : List Sal) (clA : Option Addr) (clc : Nat) (cl : List Clm) (paA : Option Addr) (pac : Nat) (l : List Pay) (w : World)
    (hPr : Rd w w.heap.size 5 PrR prA pl) (hSa : Rd w w.heap.size 5 SaR saA sl) (hCl : Rd w w.heap.size 5 ClR clA cl) (hPa : Rd w w.heap.size 7 PaR paA l) (ht : Tab w) :
    Calls Tryd.prog 7 #[.agg #[now, hh, cc, as_, em, ta, gap, tr, ins, bins, ba, .slice prA pl.length prc, .slice saA sl.length sac, .slice clA cl.length clc, .slice paA l.length pac, co, fe, bi, po]] w fun e w' => e = .returned (.bool true) ∧ Below w.heap.size w w' := by
  by_cases hfull : 64 < pl.length ∨ 512 < sl.length ∨ 512 < cl.length ∨ 512 < l.length
  · exact lawDeposits_of [now, hh, cc, as_, em, ta, gap, tr, ins, bins, ba, .slice prA pl.length prc, .slice saA sl.length sac, .slice clA cl.length clc, .slice paA l.length pac, co, fe, bi, po] rfl [] 8 w ht
      (fun w' _ => finds_full (refDeposits_full _ _ _ _ _ _ _ _ _ _ _ _ _ _ _ _ _ _ _ _ _ _ _ _ _ _ _ w' hfull)) (fun w' _ => finds_full (deposits_full _ _ _ _ _ _ _ _ _ _ _ _ _ _ _ _ _ _ _ _ _ _ _ _ _ _ _ w' hfull))
  · exact lawDeposits_of [now, hh, cc, as_, em, ta, gap, tr, ins, bins, ba, .slice prA pl.length prc, .slice saA sl.length sac, .slice clA cl.length clc, .slice paA l.length pac, co, fe, bi, po] rfl (depF sl pl cl l l.length) 0 w ht
      (fun w' hb => refDeposits_any _ _ _ _ _ _ _ _ _ _ _ _ _ _ _ _ _ pl _ _ sl _ _ cl _ _ l (by omega) (by omega) (by omega) (by omega) w' (rd_up hPr hb) (rd_up hSa hb) (rd_up hCl hb) (rd_up hPa hb))
      (fun w' hb => deposits_any _ _ _ _ _ _ _ _ _ _ _ _ _ _ _ _ _ pl _ _ sl _ _ cl _ _ l (by omega) (by omega) (by omega) (by omega) w' (rd_up hPr hb) (rd_up hSa hb) (rd_up hCl hb) (rd_up hPa hb))
end Go.Proofs.YtahnplemladjeaaDoor
