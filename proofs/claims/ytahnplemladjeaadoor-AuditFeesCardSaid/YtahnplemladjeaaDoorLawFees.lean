/- recyclinglaw59.AuditFees returns true at all books. -/
import Derived.Test.YtahnplemladjeaaDoorLawFeesOf
import Derived.Test.YtahnplemladjeaaDoorRefFees
import Derived.Test.YtahnplemladjeaaDoorFeesW
import Derived.Test.YtahnplemladjeaaDoorFeesFull
namespace Go.Proofs.YtahnplemladjeaaDoor
open Go.RowKit

theorem lawFees_any (now hh cc as_ em ta gap tr ins bins ba pr sa cl pa bi po : Value) (coA : Option Addr) (coc : Nat) (col : List Int) (feA : Option Addr) (fec : Nat) (fel : List Fee) (w : World)
    (hC : Rd w w.heap.size 1 IntR coA col) (hF : Rd w w.heap.size 3 FeR feA fel) (ht : Tab w) :
    Calls Tryd.prog 6 #[.agg #[now, hh, cc, as_, em, ta, gap, tr, ins, bins, ba, pr, sa, cl, pa, .slice coA col.length coc, .slice feA fel.length fec, bi, po]] w fun e w' => e = .returned (.bool true) ∧ Below w.heap.size w w' := by
  by_cases hfull : 16 < col.length ∨ 512 < fel.length
  · exact lawFees_of [now, hh, cc, as_, em, ta, gap, tr, ins, bins, ba, pr, sa, cl, pa, .slice coA col.length coc, .slice feA fel.length fec, bi, po] rfl [] 8 w ht
      (fun w' _ => finds_full (refFees_full _ _ _ _ _ _ _ _ _ _ _ _ _ _ _ _ _ _ _ _ _ _ _ w' hfull)) (fun w' _ => finds_full (fees_full _ _ _ _ _ _ _ _ _ _ _ _ _ _ _ _ _ _ _ _ _ _ _ w' hfull))
  · exact lawFees_of [now, hh, cc, as_, em, ta, gap, tr, ins, bins, ba, pr, sa, cl, pa, .slice coA col.length coc, .slice feA fel.length fec, bi, po] rfl (feesF col fel) 0 w ht
      (fun w' hb => refFees_any _ _ _ _ _ _ _ _ _ _ _ _ _ _ _ _ _ _ _ _ (by omega) _ _ _ (by omega) w' (rd_later hC hb) (rd_later hF hb)) (fun w' hb => fees_any _ _ _ _ _ _ _ _ _ _ _ _ _ _ _ _ _ _ _ _ (by omega) _ _ _ (by omega) w' (rd_later hC hb) (rd_later hF hb))
end Go.Proofs.YtahnplemladjeaaDoor
