/- Models of functions, and that the code follows them. Written by deco.py. -/
import Derived.Test.YtpbgfdmkebnjgaaGreatDoorBR2
namespace Go.Proofs.YtpbgfdmkebnjgaaGreatDoor
open Go.RowKit
set_option linter.unusedSectionVars false
variable [JF]

/-- recyclingref54.Explain -/
def m_recyclingref54_Explain (N : Nat) (p0 : ApiAccount) (p1 : ApiBill) (p2 : Int) : Option (ByteArray × Int) :=
 Option.bind (m_recyclingref54_Check N p0) fun r7 => (if r7 ≠ 0 then
  some (((⟨#[]⟩ : ByteArray), r7))
 else
  (if ((decide (p2 < 0)) || (decide ((List.length p1.Items : Int) ≤ p2))) = true then
   some (((⟨#[]⟩ : ByteArray), (7 : Int)))
  else
   ck ((0 : Int) ≤ p2 ∧ p2 < (List.length p1.Items : Int)) (
    (if ((decide ((ix p1.Items p2).Kind < 1)) || (decide (4 < (ix p1.Items p2).Kind))) = true then
     some (((⟨#[]⟩ : ByteArray), (21 : Int)))
    else
     Option.bind (m_strconv_Itoa N ((ix p1.Items p2).Ref)) fun r16 => Option.bind (m_strconv_Itoa N ((ix p1.Items p2).Amount)) fun r18 => ck (ByteArray.size (⟨#[58, 32]⟩ : ByteArray) + ByteArray.size r18 ≤ 9223372036854775807) (
      (if ((decide ((ix p1.Items p2).Kind = 4)) && (decide ((ix p1.Items p2).Ref = 0))) = true then
       ck (ByteArray.size (⟨#[99, 114, 101, 100, 105, 116]⟩ : ByteArray) + ByteArray.size ((⟨#[58, 32]⟩ : ByteArray) ++ r18) ≤ 9223372036854775807) (
        some ((((⟨#[99, 114, 101, 100, 105, 116]⟩ : ByteArray) ++ ((⟨#[58, 32]⟩ : ByteArray) ++ r18)), (0 : Int))))
      else
       (if (ix p1.Items p2).Kind = 4 then
        ck (ByteArray.size (⟨#[99, 114, 101, 100, 105, 116, 32, 102, 111, 114, 32, 101, 109, 112, 116, 121, 105, 110, 103, 32]⟩ : ByteArray) + ByteArray.size r16 ≤ 9223372036854775807) (
         ck (ByteArray.size ((⟨#[99, 114, 101, 100, 105, 116, 32, 102, 111, 114, 32, 101, 109, 112, 116, 121, 105, 110, 103, 32]⟩ : ByteArray) ++ r16) + ByteArray.size ((⟨#[58, 32]⟩ : ByteArray) ++ r18) ≤ 9223372036854775807) (
          some (((((⟨#[99, 114, 101, 100, 105, 116, 32, 102, 111, 114, 32, 101, 109, 112, 116, 121, 105, 110, 103, 32]⟩ : ByteArray) ++ r16) ++ ((⟨#[58, 32]⟩ : ByteArray) ++ r18)), (0 : Int)))))
       else
        Option.bind (m_strconv_Itoa N ((ix p1.Items p2).Count)) fun r27 => Option.bind (m_strconv_Itoa N ((ix p1.Items p2).Price)) fun r29 => (if (ix p1.Items p2).Kind = 1 then
         (if ((decide ((ix p1.Items p2).Ref < 0)) || (decide ((List.length p0.Tariffs : Int) ≤ (ix p1.Items p2).Ref))) = true then
          some (((⟨#[]⟩ : ByteArray), (7 : Int)))
         else
          ck (ByteArray.size (⟨#[98, 97, 115, 101, 32]⟩ : ByteArray) + ByteArray.size r27 ≤ 9223372036854775807) (
           ck (ByteArray.size ((⟨#[98, 97, 115, 101, 32]⟩ : ByteArray) ++ r27) + ByteArray.size (⟨#[32, 100, 97, 121, 115, 32, 97, 116, 32]⟩ : ByteArray) ≤ 9223372036854775807) (
            ck (ByteArray.size (((⟨#[98, 97, 115, 101, 32]⟩ : ByteArray) ++ r27) ++ (⟨#[32, 100, 97, 121, 115, 32, 97, 116, 32]⟩ : ByteArray)) + ByteArray.size r29 ≤ 9223372036854775807) (
             ck (ByteArray.size ((((⟨#[98, 97, 115, 101, 32]⟩ : ByteArray) ++ r27) ++ (⟨#[32, 100, 97, 121, 115, 32, 97, 116, 32]⟩ : ByteArray)) ++ r29) + ByteArray.size (⟨#[32, 98, 121, 32, 116, 97, 114, 105, 102, 102, 32]⟩ : ByteArray) ≤ 9223372036854775807) (
              ck (ByteArray.size (((((⟨#[98, 97, 115, 101, 32]⟩ : ByteArray) ++ r27) ++ (⟨#[32, 100, 97, 121, 115, 32, 97, 116, 32]⟩ : ByteArray)) ++ r29) ++ (⟨#[32, 98, 121, 32, 116, 97, 114, 105, 102, 102, 32]⟩ : ByteArray)) + ByteArray.size r16 ≤ 9223372036854775807) (
               ck (ByteArray.size ((((((⟨#[98, 97, 115, 101, 32]⟩ : ByteArray) ++ r27) ++ (⟨#[32, 100, 97, 121, 115, 32, 97, 116, 32]⟩ : ByteArray)) ++ r29) ++ (⟨#[32, 98, 121, 32, 116, 97, 114, 105, 102, 102, 32]⟩ : ByteArray)) ++ r16) + ByteArray.size ((⟨#[58, 32]⟩ : ByteArray) ++ r18) ≤ 9223372036854775807) (
                some (((((((((⟨#[98, 97, 115, 101, 32]⟩ : ByteArray) ++ r27) ++ (⟨#[32, 100, 97, 121, 115, 32, 97, 116, 32]⟩ : ByteArray)) ++ r29) ++ (⟨#[32, 98, 121, 32, 116, 97, 114, 105, 102, 102, 32]⟩ : ByteArray)) ++ r16) ++ ((⟨#[58, 32]⟩ : ByteArray) ++ r18)), (0 : Int))))))))))
        else
         (andThen
          (loopM (fun (s72 : Int) =>
           ck (decide (s72 < (List.length p0.Emptyings : Int)) = true → (0 : Int) ≤ s72 ∧ s72 < (List.length p0.Emptyings : Int)) (
            (if ((decide (s72 < (List.length p0.Emptyings : Int))) && (decide ((ix p0.Emptyings s72).ID ≠ (ix p1.Items p2).Ref))) = true then
             ck (I64 (s72 + (1 : Int))) (
              some (.next (s72 + (1 : Int))))
            else
             some (.done (.next s72))))) N (0 : Int))
         fun (s58 : Int) =>
          (if s58 = (List.length p0.Emptyings : Int) then
           some (((⟨#[]⟩ : ByteArray), (7 : Int)))
          else
           ck ((0 : Int) ≤ s58 ∧ s58 < (List.length p0.Emptyings : Int)) (
            (if (ix p1.Items p2).Kind = 3 then
             ck (ByteArray.size (⟨#[119, 101, 105, 103, 104, 116, 32, 111, 102, 32, 101, 109, 112, 116, 121, 105, 110, 103, 32]⟩ : ByteArray) + ByteArray.size r16 ≤ 9223372036854775807) (
              ck (ByteArray.size ((⟨#[119, 101, 105, 103, 104, 116, 32, 111, 102, 32, 101, 109, 112, 116, 121, 105, 110, 103, 32]⟩ : ByteArray) ++ r16) + ByteArray.size (⟨#[32, 102, 114, 111, 109, 32]⟩ : ByteArray) ≤ 9223372036854775807) (
               Option.bind (m_strconv_Itoa N ((ix p0.Emptyings s58).Mass.Lo)) fun r84 => ck (ByteArray.size (((⟨#[119, 101, 105, 103, 104, 116, 32, 111, 102, 32, 101, 109, 112, 116, 121, 105, 110, 103, 32]⟩ : ByteArray) ++ r16) ++ (⟨#[32, 102, 114, 111, 109, 32]⟩ : ByteArray)) + ByteArray.size r84 ≤ 9223372036854775807) (
                ck (ByteArray.size ((((⟨#[119, 101, 105, 103, 104, 116, 32, 111, 102, 32, 101, 109, 112, 116, 121, 105, 110, 103, 32]⟩ : ByteArray) ++ r16) ++ (⟨#[32, 102, 114, 111, 109, 32]⟩ : ByteArray)) ++ r84) + ByteArray.size (⟨#[32, 116, 111, 32]⟩ : ByteArray) ≤ 9223372036854775807) (
                 Option.bind (m_strconv_Itoa N ((ix p0.Emptyings s58).Mass.Hi)) fun r88 => ck (ByteArray.size (((((⟨#[119, 101, 105, 103, 104, 116, 32, 111, 102, 32, 101, 109, 112, 116, 121, 105, 110, 103, 32]⟩ : ByteArray) ++ r16) ++ (⟨#[32, 102, 114, 111, 109, 32]⟩ : ByteArray)) ++ r84) ++ (⟨#[32, 116, 111, 32]⟩ : ByteArray)) + ByteArray.size r88 ≤ 9223372036854775807) (
                  ck (ByteArray.size ((((((⟨#[119, 101, 105, 103, 104, 116, 32, 111, 102, 32, 101, 109, 112, 116, 121, 105, 110, 103, 32]⟩ : ByteArray) ++ r16) ++ (⟨#[32, 102, 114, 111, 109, 32]⟩ : ByteArray)) ++ r84) ++ (⟨#[32, 116, 111, 32]⟩ : ByteArray)) ++ r88) + ByteArray.size (⟨#[32, 103, 114, 97, 109, 115, 58, 32]⟩ : ByteArray) ≤ 9223372036854775807) (
                   ck (ByteArray.size (((((((⟨#[119, 101, 105, 103, 104, 116, 32, 111, 102, 32, 101, 109, 112, 116, 121, 105, 110, 103, 32]⟩ : ByteArray) ++ r16) ++ (⟨#[32, 102, 114, 111, 109, 32]⟩ : ByteArray)) ++ r84) ++ (⟨#[32, 116, 111, 32]⟩ : ByteArray)) ++ r88) ++ (⟨#[32, 103, 114, 97, 109, 115, 58, 32]⟩ : ByteArray)) + ByteArray.size r27 ≤ 9223372036854775807) (
                    ck (ByteArray.size ((((((((⟨#[119, 101, 105, 103, 104, 116, 32, 111, 102, 32, 101, 109, 112, 116, 121, 105, 110, 103, 32]⟩ : ByteArray) ++ r16) ++ (⟨#[32, 102, 114, 111, 109, 32]⟩ : ByteArray)) ++ r84) ++ (⟨#[32, 116, 111, 32]⟩ : ByteArray)) ++ r88) ++ (⟨#[32, 103, 114, 97, 109, 115, 58, 32]⟩ : ByteArray)) ++ r27) + ByteArray.size (⟨#[32, 107, 103, 32, 97, 116, 32]⟩ : ByteArray) ≤ 9223372036854775807) (
                     ck (ByteArray.size (((((((((⟨#[119, 101, 105, 103, 104, 116, 32, 111, 102, 32, 101, 109, 112, 116, 121, 105, 110, 103, 32]⟩ : ByteArray) ++ r16) ++ (⟨#[32, 102, 114, 111, 109, 32]⟩ : ByteArray)) ++ r84) ++ (⟨#[32, 116, 111, 32]⟩ : ByteArray)) ++ r88) ++ (⟨#[32, 103, 114, 97, 109, 115, 58, 32]⟩ : ByteArray)) ++ r27) ++ (⟨#[32, 107, 103, 32, 97, 116, 32]⟩ : ByteArray)) + ByteArray.size r29 ≤ 9223372036854775807) (
                      ck (ByteArray.size ((((((((((⟨#[119, 101, 105, 103, 104, 116, 32, 111, 102, 32, 101, 109, 112, 116, 121, 105, 110, 103, 32]⟩ : ByteArray) ++ r16) ++ (⟨#[32, 102, 114, 111, 109, 32]⟩ : ByteArray)) ++ r84) ++ (⟨#[32, 116, 111, 32]⟩ : ByteArray)) ++ r88) ++ (⟨#[32, 103, 114, 97, 109, 115, 58, 32]⟩ : ByteArray)) ++ r27) ++ (⟨#[32, 107, 103, 32, 97, 116, 32]⟩ : ByteArray)) ++ r29) + ByteArray.size ((⟨#[58, 32]⟩ : ByteArray) ++ r18) ≤ 9223372036854775807) (
                       some (((((((((((((⟨#[119, 101, 105, 103, 104, 116, 32, 111, 102, 32, 101, 109, 112, 116, 121, 105, 110, 103, 32]⟩ : ByteArray) ++ r16) ++ (⟨#[32, 102, 114, 111, 109, 32]⟩ : ByteArray)) ++ r84) ++ (⟨#[32, 116, 111, 32]⟩ : ByteArray)) ++ r88) ++ (⟨#[32, 103, 114, 97, 109, 115, 58, 32]⟩ : ByteArray)) ++ r27) ++ (⟨#[32, 107, 103, 32, 97, 116, 32]⟩ : ByteArray)) ++ r29) ++ ((⟨#[58, 32]⟩ : ByteArray) ++ r18)), (0 : Int)))))))))))))
            else
             ck (ByteArray.size (⟨#[101, 109, 112, 116, 121, 105, 110, 103, 32]⟩ : ByteArray) + ByteArray.size r16 ≤ 9223372036854775807) (
              ck (ByteArray.size ((⟨#[101, 109, 112, 116, 121, 105, 110, 103, 32]⟩ : ByteArray) ++ r16) + ByteArray.size (⟨#[32, 111, 102, 32, 99, 111, 110, 116, 97, 105, 110, 101, 114, 32]⟩ : ByteArray) ≤ 9223372036854775807) (
               ck ((0 : Int) ≤ (ix p0.Emptyings s58).Container ∧ (ix p0.Emptyings s58).Container < (List.length p0.Containers : Int)) (
                ck (ByteArray.size (((⟨#[101, 109, 112, 116, 121, 105, 110, 103, 32]⟩ : ByteArray) ++ r16) ++ (⟨#[32, 111, 102, 32, 99, 111, 110, 116, 97, 105, 110, 101, 114, 32]⟩ : ByteArray)) + ByteArray.size ((ix p0.Containers ((ix p0.Emptyings s58).Container)).ID) ≤ 9223372036854775807) (
                 ck (ByteArray.size ((((⟨#[101, 109, 112, 116, 121, 105, 110, 103, 32]⟩ : ByteArray) ++ r16) ++ (⟨#[32, 111, 102, 32, 99, 111, 110, 116, 97, 105, 110, 101, 114, 32]⟩ : ByteArray)) ++ ((ix p0.Containers ((ix p0.Emptyings s58).Container)).ID)) + ByteArray.size (⟨#[32, 111, 110, 32, 100, 97, 121, 32]⟩ : ByteArray) ≤ 9223372036854775807) (
                  ck (I64 ((ix p0.Emptyings s58).At)) (
                   Option.bind (m_strconv_Itoa N (Int.tdiv ((ix p0.Emptyings s58).At) 86400)) fun r102 => ck (ByteArray.size (((((⟨#[101, 109, 112, 116, 121, 105, 110, 103, 32]⟩ : ByteArray) ++ r16) ++ (⟨#[32, 111, 102, 32, 99, 111, 110, 116, 97, 105, 110, 101, 114, 32]⟩ : ByteArray)) ++ ((ix p0.Containers ((ix p0.Emptyings s58).Container)).ID)) ++ (⟨#[32, 111, 110, 32, 100, 97, 121, 32]⟩ : ByteArray)) + ByteArray.size r102 ≤ 9223372036854775807) (
                    ck (ByteArray.size ((((((⟨#[101, 109, 112, 116, 121, 105, 110, 103, 32]⟩ : ByteArray) ++ r16) ++ (⟨#[32, 111, 102, 32, 99, 111, 110, 116, 97, 105, 110, 101, 114, 32]⟩ : ByteArray)) ++ ((ix p0.Containers ((ix p0.Emptyings s58).Container)).ID)) ++ (⟨#[32, 111, 110, 32, 100, 97, 121, 32]⟩ : ByteArray)) ++ r102) + ByteArray.size (⟨#[32, 97, 116, 32, 115, 101, 99, 111, 110, 100, 32]⟩ : ByteArray) ≤ 9223372036854775807) (
                     ck (I64 ((ix p0.Emptyings s58).At)) (
                      Option.bind (m_strconv_Itoa N (Int.tmod ((ix p0.Emptyings s58).At) 86400)) fun r107 => ck (ByteArray.size (((((((⟨#[101, 109, 112, 116, 121, 105, 110, 103, 32]⟩ : ByteArray) ++ r16) ++ (⟨#[32, 111, 102, 32, 99, 111, 110, 116, 97, 105, 110, 101, 114, 32]⟩ : ByteArray)) ++ ((ix p0.Containers ((ix p0.Emptyings s58).Container)).ID)) ++ (⟨#[32, 111, 110, 32, 100, 97, 121, 32]⟩ : ByteArray)) ++ r102) ++ (⟨#[32, 97, 116, 32, 115, 101, 99, 111, 110, 100, 32]⟩ : ByteArray)) + ByteArray.size r107 ≤ 9223372036854775807) (
                       ck (ByteArray.size ((((((((⟨#[101, 109, 112, 116, 121, 105, 110, 103, 32]⟩ : ByteArray) ++ r16) ++ (⟨#[32, 111, 102, 32, 99, 111, 110, 116, 97, 105, 110, 101, 114, 32]⟩ : ByteArray)) ++ ((ix p0.Containers ((ix p0.Emptyings s58).Container)).ID)) ++ (⟨#[32, 111, 110, 32, 100, 97, 121, 32]⟩ : ByteArray)) ++ r102) ++ (⟨#[32, 97, 116, 32, 115, 101, 99, 111, 110, 100, 32]⟩ : ByteArray)) ++ r107) + ByteArray.size (⟨#[32, 98, 121, 32, 118, 101, 104, 105, 99, 108, 101, 32]⟩ : ByteArray) ≤ 9223372036854775807) (
                        Option.bind (m_strconv_Itoa N ((ix p0.Emptyings s58).Vehicle)) fun r111 => ck (ByteArray.size (((((((((⟨#[101, 109, 112, 116, 121, 105, 110, 103, 32]⟩ : ByteArray) ++ r16) ++ (⟨#[32, 111, 102, 32, 99, 111, 110, 116, 97, 105, 110, 101, 114, 32]⟩ : ByteArray)) ++ ((ix p0.Containers ((ix p0.Emptyings s58).Container)).ID)) ++ (⟨#[32, 111, 110, 32, 100, 97, 121, 32]⟩ : ByteArray)) ++ r102) ++ (⟨#[32, 97, 116, 32, 115, 101, 99, 111, 110, 100, 32]⟩ : ByteArray)) ++ r107) ++ (⟨#[32, 98, 121, 32, 118, 101, 104, 105, 99, 108, 101, 32]⟩ : ByteArray)) + ByteArray.size r111 ≤ 9223372036854775807) (
                         ck (ByteArray.size ((((((((((⟨#[101, 109, 112, 116, 121, 105, 110, 103, 32]⟩ : ByteArray) ++ r16) ++ (⟨#[32, 111, 102, 32, 99, 111, 110, 116, 97, 105, 110, 101, 114, 32]⟩ : ByteArray)) ++ ((ix p0.Containers ((ix p0.Emptyings s58).Container)).ID)) ++ (⟨#[32, 111, 110, 32, 100, 97, 121, 32]⟩ : ByteArray)) ++ r102) ++ (⟨#[32, 97, 116, 32, 115, 101, 99, 111, 110, 100, 32]⟩ : ByteArray)) ++ r107) ++ (⟨#[32, 98, 121, 32, 118, 101, 104, 105, 99, 108, 101, 32]⟩ : ByteArray)) ++ r111) + ByteArray.size ((⟨#[58, 32]⟩ : ByteArray) ++ r18) ≤ 9223372036854775807) (
                          some (((((((((((((⟨#[101, 109, 112, 116, 121, 105, 110, 103, 32]⟩ : ByteArray) ++ r16) ++ (⟨#[32, 111, 102, 32, 99, 111, 110, 116, 97, 105, 110, 101, 114, 32]⟩ : ByteArray)) ++ ((ix p0.Containers ((ix p0.Emptyings s58).Container)).ID)) ++ (⟨#[32, 111, 110, 32, 100, 97, 121, 32]⟩ : ByteArray)) ++ r102) ++ (⟨#[32, 97, 116, 32, 115, 101, 99, 111, 110, 100, 32]⟩ : ByteArray)) ++ r107) ++ (⟨#[32, 98, 121, 32, 118, 101, 104, 105, 99, 108, 101, 32]⟩ : ByteArray)) ++ r111) ++ ((⟨#[58, 32]⟩ : ByteArray) ++ r18)), (0 : Int))))))))))))))))))))))))))))
set_option maxHeartbeats 2000000 in
set_option maxRecDepth 20000 in
theorem m_recyclingref54_Explain_ok (N : Nat) (w0 : World) (p0 : ApiAccount) (p1 : ApiBill) (p2 : Int) (A_p01 : Option Addr) (n_p01 c_p01 : Nat) (A_p02 : Option Addr) (n_p02 c_p02 : Nat) (A_p03 : Option Addr) (n_p03 c_p03 : Nat) (A_p04 : Option Addr) (n_p04 c_p04 : Nat) (A_p05 : Option Addr) (n_p05 c_p05 : Nat) (A_p11 : Option Addr) (n_p11 c_p11 : Nat) (hr_p01 : RdE w0 2 encApiHousehold A_p01 p0.Households) (hz_p01 : SW A_p01 n_p01 c_p01 (List.length p0.Households)) (hr_p02 : RdE w0 5 encApiContainer A_p02 p0.Containers) (hz_p02 : SW A_p02 n_p02 c_p02 (List.length p0.Containers)) (hr_p03 : RdE w0 4 encApiAssign A_p03 p0.Assigns) (hz_p03 : SW A_p03 n_p03 c_p03 (List.length p0.Assigns)) (hr_p04 : RdE w0 7 encApiEmptying A_p04 p0.Emptyings) (hz_p04 : SW A_p04 n_p04 c_p04 (List.length p0.Emptyings)) (hr_p05 : RdE w0 5 encApiTariff A_p05 p0.Tariffs) (hz_p05 : SW A_p05 n_p05 c_p05 (List.length p0.Tariffs)) (hr_p11 : RdE w0 5 encApiItem A_p11 p1.Items) (hz_p11 : SW A_p11 n_p11 c_p11 (List.length p1.Items)) (ht : Tab w0) (r : ByteArray × Int) (hr : m_recyclingref54_Explain N p0 p1 p2 = some r) :
  Ret Tryz.prog 24 [.agg #[.slice A_p01 n_p01 c_p01, .slice A_p02 n_p02 c_p02, .slice A_p03 n_p03 c_p03, .slice A_p04 n_p04 c_p04, .slice A_p05 n_p05 c_p05, .int .i64 p0.Gap], .agg #[.int .i64 p1.ID, .int .i64 p1.Household, .int .i64 p1.When.From, .int .i64 p1.When.To, .slice A_p11 n_p11 c_p11, .int .i64 p1.Total], .int .i64 p2] w0 (fun (r : ByteArray × Int) (_u : Unit) => .tuple #[.string r.1, .int .i64 r.2]) (fun (_r : ByteArray × Int) (_u : Unit) => []) r := by
 refine calls_v (n := 180) r hr Tryz.func24 ?_
 unfold m_recyclingref54_Explain
 refine sr ?_
 refine lm_box 3 [.slice _ _ _, .slice _ _ _, .slice _ _ _, .slice _ _ _, .slice _ _ _, .int .i64 _] (by kernel_rfl) rfl ?_
 intro b5
 refine lm_box 4 [.int .i64 _, .int .i64 _, .int .i64 _, .int .i64 _, .slice _ _ _, .int .i64 _] (by kernel_rfl) rfl ?_
 intro b6
 refine la 2 ((7, .int .i64 _) :: (6, .string _) :: _) rfl ?_
 refine nn ?_
 refine cm_seq ?_
 refine sr ?_
 refine v_ 16 (fun _ c1 => oR [.slice _ _ _, .slice _ _ _, .slice _ _ _, .slice _ _ _, .slice _ _ _, .int .i64 _] (c1.cells 1 rfl rfl)) ?_
 refine lm_call 17 (V := (fun (r : Int) (_u : Unit) => .int .i64 r)) (HR := (fun (_r : Int) (_u : Unit) => [])) (by kernel_rfl) (fun w1 => op_call (by kernel_rfl)) (fun r1 hr1 w1 c1 => m_recyclingref54_Check_ok N w1 p0 A_p01 n_p01 c_p01 A_p02 n_p02 c_p02 A_p03 n_p03 c_p03 A_p04 n_p04 c_p04 A_p05 n_p05 c_p05 (hr_p01.old c1) hz_p01 (hr_p02.old c1) hz_p02 (hr_p03.old c1) hz_p03 (hr_p04.old c1) hz_p04 (hr_p05.old c1) hz_p05 r1 hr1) ?_
 intro r7 u8
 refine la 1 ((8, .int .i64 _) :: _) rfl ?_
 refine nn ?_
 refine sr ?_
 refine la 2 ((19, .bool _) :: (18, .int .i64 _) :: _) rfl ?_
 refine nn ?_
 refine cm_cond (by kernel_rfl) rfl (fun h9 => ?_) (fun h9 => ?_)
 ·refine sr ?_
  refine la 3 ((7, .int .i64 _) :: (6, .string _) :: (20, .int .i64 _) :: _) rfl ?_
  refine nn ?_
  refine cm_ret ?_
  refine xm_thenR ?_
  exact xm_retTT rfl (by kernel_rfl) (show _ = Value.string _ from rfl) (by kernel_rfl) (show _ = Value.int .i64 _ from rfl) fun w1 c1 => ⟨(), rfl, hsub [] (by kernel_rfl) rfl w1 c1⟩
 ·refine sk ?_
  refine cm_seq ?_
  refine cm_seq ?_
  refine cm_cutE [(29, .bool ((decide (p2 < 0)) || (decide ((List.length p1.Items : Int) ≤ p2))))] ?_ ?_
  ·refine qa 1 ((21, .int .i64 _) :: _) rfl ?_
   refine qd 22 (fun _ _ => op_lss rfl rfl) (fun h10 => ?_) (fun h10 => ?_)
   ·refine qa 7 ((29, .bool true) :: (28, undef) :: (27, undef) :: (26, undef) :: (25, undef) :: (24, undef) :: (23, .bool true) :: _) rfl ?_
    exact leaf_q (sub_out 9 _ rfl (by kernel_rfl) ⟨(congrArg Value.bool (by rw [decide_eq_true h10] <;> rfl)), trivial⟩)
   ·refine qa 2 ((24, .int .i64 _) :: (23, .bool false) :: _) rfl ?_
    refine q_ 25 (fun _ _ => oF 4 4 rfl) ?_
    refine q_ 26 (fun _ c1 => oL (c1.cell 0 (u := .slice _ _ _) rfl rfl)) ?_
    refine q_ 27 (fun _ _ => op_lenN rfl (by kernel_rfl) hz_p11.2.2) ?_
    refine qa 2 ((29, .bool _) :: (28, .bool _) :: _) rfl ?_
    exact leaf_q (sub_out 9 _ rfl (by kernel_rfl) ⟨(congrArg Value.bool (by rw [decide_eq_false h10] <;> rfl)), trivial⟩)
  refine xm_next ?_
  refine cm_condB (by kernel_rfl) rfl (fun h11 => ?_) (fun h11 => ?_)
  ·refine sr ?_
   refine la 2 ((7, .int .i64 _) :: (6, .string _) :: _) rfl ?_
   refine nn ?_
   refine cm_ret ?_
   refine xm_thenR ?_
   exact xm_retTT rfl (by kernel_rfl) (show _ = Value.string _ from rfl) (by kernel_rfl) (show _ = Value.int .i64 _ from rfl) fun w1 c1 => ⟨(), rfl, hsub [] (by kernel_rfl) rfl w1 c1⟩
  ·refine sk ?_
   refine sr ?_
   refine v_ 30 (fun _ _ => oF 4 4 rfl) ?_
   refine v_ 31 (fun _ c1 => oL (c1.cell 0 (u := .slice _ _ _) rfl rfl)) ?_
   refine la 1 ((32, .int .i64 _) :: _) rfl ?_
   refine lm_ck (fun h12 => ?_)
   refine v_ 33 (fun _ c1 => oI 5 rfl rfl ((hr_p11.old c1).addr h12.1 h12.2) hz_p11.2.2 h12) ?_
   refine v_ 34 (fun _ c1 => oR [.int .i64 ((ix p1.Items p2).Kind), .int .i64 ((ix p1.Items p2).Ref), .int .i64 ((ix p1.Items p2).Count), .int .i64 ((ix p1.Items p2).Price), .int .i64 ((ix p1.Items p2).Amount)] ((hr_p11.old c1).row h12.1 h12.2)) ?_
   refine lm_alloc 9 [.int .i64 0, .int .i64 0, .int .i64 0, .int .i64 0, .int .i64 0] (v := .agg #[.int .i64 0, .int .i64 0, .int .i64 0, .int .i64 0, .int .i64 0]) (by kernel_rfl) (by kernel_rfl) rfl ?_
   intro b13
   refine lm_storeA 0 [.int .i64 _, .int .i64 _, .int .i64 _, .int .i64 _, .int .i64 _] [_, _, _, _, _] (H' := [blkE _ _ [_, _, _, _, _], _, _]) (by kernel_rfl) rfl rfl (by kernel_rfl) rfl rfl (by kernel_rfl) rfl rfl ?_
   refine nn ?_
   refine cm_seq ?_
   refine cm_seq ?_
   refine cm_cutE [(42, .bool ((decide ((ix p1.Items p2).Kind < 1)) || (decide (4 < (ix p1.Items p2).Kind))))] ?_ ?_
   ·refine q_ 35 (fun _ _ => oF 0 0 rfl) ?_
    refine q_ 36 (fun _ c1 => oL (c1.cell 0 (u := .int .i64 _) rfl rfl)) ?_
    refine qd 37 (fun _ _ => op_lss rfl rfl) (fun h14 => ?_) (fun h14 => ?_)
    ·refine qa 5 ((42, .bool true) :: (41, undef) :: (40, undef) :: (39, undef) :: (38, .bool true) :: _) rfl ?_
     exact leaf_q (sub_out 8 _ rfl (by kernel_rfl) ⟨(congrArg Value.bool (by rw [decide_eq_true h14] <;> rfl)), trivial⟩)
    ·refine qa 1 ((38, .bool false) :: _) rfl ?_
     refine q_ 39 (fun _ _ => oF 0 0 rfl) ?_
     refine q_ 40 (fun _ c1 => oL (c1.cell 0 (u := .int .i64 _) rfl rfl)) ?_
     refine qa 2 ((42, .bool _) :: (41, .bool _) :: _) rfl ?_
     exact leaf_q (sub_out 8 _ rfl (by kernel_rfl) ⟨(congrArg Value.bool (by rw [decide_eq_false h14] <;> rfl)), trivial⟩)
   refine xm_next ?_
   refine cm_condB (by kernel_rfl) rfl (fun h15 => ?_) (fun h15 => ?_)
   ·refine sr ?_
    refine la 2 ((7, .int .i64 _) :: (6, .string _) :: _) rfl ?_
    refine nn ?_
    refine cm_ret ?_
    refine xm_thenR ?_
    exact xm_retTT rfl (by kernel_rfl) (show _ = Value.string _ from rfl) (by kernel_rfl) (show _ = Value.int .i64 _ from rfl) fun w1 c1 => ⟨(), rfl, hsub [] (by kernel_rfl) rfl w1 c1⟩
   ·refine sk ?_
    refine cm_seq ?_
    refine cm_bind fun r16 h17 => ?_
    refine cm_bind fun r18 h19 => ?_
    refine cm_ck (fun h20 => ?_)
    refine cm_drawn [(10, .string r16), (11, .string ((⟨#[58, 32]⟩ : ByteArray) ++ r18))] (by kernel_rfl) (by kernel_rfl) ?_ ?_
    ·refine q_ 43 (fun _ _ => oF 1 1 rfl) ?_
     refine q_ 44 (fun _ c1 => oL (c1.cell 0 (u := .int .i64 _) rfl rfl)) ?_
     refine wq_call 45 (by kernel_rfl) (fun w1 c1 => op_call (by kernel_rfl)) (fun w1 c1 => (m_strconv_Itoa_ok N w1 ((ix p1.Items p2).Ref) (hs_tab ht c1) r16 h17).mono (fun _ _ ⟨_, hx, hu⟩ => ⟨hx, c1.call hu⟩)) ?_
     refine q_ 46 (fun _ _ => oF 4 4 rfl) ?_
     refine q_ 47 (fun _ c1 => oL (c1.cell 0 (u := .int .i64 _) rfl rfl)) ?_
     refine wq_call 48 (by kernel_rfl) (fun w1 c1 => op_call (by kernel_rfl)) (fun w1 c1 => (m_strconv_Itoa_ok N w1 ((ix p1.Items p2).Amount) (hs_tab ht c1) r18 h19).mono (fun _ _ ⟨_, hx, hu⟩ => ⟨hx, c1.call hu⟩)) ?_
     refine q_ 49 (fun _ _ => op_addS rfl rfl h20) ?_
     refine qa 2 ((11, .string _) :: (10, .string _) :: _) rfl ?_
     exact lq 9
    refine xm_next ?_
    refine cm_seq ?_
    refine cm_seq ?_
    refine cm_cutE [(57, .bool ((decide ((ix p1.Items p2).Kind = 4)) && (decide ((ix p1.Items p2).Ref = 0))))] ?_ ?_
    ·refine q_ 50 (fun _ _ => oF 0 0 rfl) ?_
     refine q_ 51 (fun _ c1 => oL (c1.cell 0 (u := .int .i64 _) rfl rfl)) ?_
     refine qd 52 (fun _ _ => op_eql rfl rfl) (fun h21 => ?_) (fun h21 => ?_)
     ·refine qa 1 ((53, .bool true) :: _) rfl ?_
      refine q_ 54 (fun _ _ => oF 1 1 rfl) ?_
      refine q_ 55 (fun _ c1 => oL (c1.cell 0 (u := .int .i64 _) rfl rfl)) ?_
      refine qa 2 ((57, .bool _) :: (56, .bool _) :: _) rfl ?_
      exact leaf_q (sub_out 8 _ rfl (by kernel_rfl) ⟨(congrArg Value.bool (by rw [decide_eq_true h21] <;> rfl)), trivial⟩)
     ·refine qa 5 ((57, .bool false) :: (56, undef) :: (55, undef) :: (54, undef) :: (53, .bool false) :: _) rfl ?_
      exact leaf_q (sub_out 8 _ rfl (by kernel_rfl) ⟨(congrArg Value.bool (by rw [decide_eq_false h21] <;> rfl)), trivial⟩)
    refine xm_next ?_
    refine cm_condB (by kernel_rfl) rfl (fun h22 => ?_) (fun h22 => ?_)
    ·refine sr ?_
     refine la 1 ((58, .string _) :: _) rfl ?_
     refine lm_ck (fun h23 => ?_)
     refine v_ 59 (fun _ _ => op_addS rfl rfl h23) ?_
     refine la 2 ((7, .int .i64 _) :: (6, .string _) :: _) rfl ?_
     refine nn ?_
     refine cm_ret ?_
     refine xm_thenR ?_
     exact xm_retTT rfl (by kernel_rfl) (show _ = Value.string _ from rfl) (by kernel_rfl) (show _ = Value.int .i64 _ from rfl) fun w1 c1 => ⟨(), rfl, hsub [] (by kernel_rfl) rfl w1 c1⟩
    ·refine sk ?_
     refine cm_seq ?_
     refine sr ?_
     refine v_ 60 (fun _ _ => oF 0 0 rfl) ?_
     refine v_ 61 (fun _ c1 => oL (c1.cell 0 (u := .int .i64 _) rfl rfl)) ?_
     refine la 1 ((62, .bool _) :: _) rfl ?_
     refine nn ?_
     refine cm_cond (by kernel_rfl) rfl (fun h24 => ?_) (fun h24 => ?_)
     ·refine sr ?_
      refine la 1 ((63, .string _) :: _) rfl ?_
      refine lm_ck (fun h25 => ?_)
      refine v_ 64 (fun _ _ => op_addS rfl rfl h25) ?_
      refine la 1 ((65, .string _) :: _) rfl ?_
      refine lm_ck (fun h26 => ?_)
      refine v_ 66 (fun _ _ => op_addS rfl rfl h26) ?_
      refine la 2 ((7, .int .i64 _) :: (6, .string _) :: _) rfl ?_
      refine nn ?_
      refine cm_ret ?_
      refine xm_thenR ?_
      exact xm_retTT rfl (by kernel_rfl) (show _ = Value.string _ from rfl) (by kernel_rfl) (show _ = Value.int .i64 _ from rfl) fun w1 c1 => ⟨(), rfl, hsub [] (by kernel_rfl) rfl w1 c1⟩
     ·refine sk ?_
      refine cm_seq ?_
      refine cm_bind fun r27 h28 => ?_
      refine cm_bind fun r29 h30 => ?_
      refine cm_drawn [(12, .string r27), (13, .string r29)] (by kernel_rfl) (by kernel_rfl) ?_ ?_
      ·refine q_ 67 (fun _ _ => oF 2 2 rfl) ?_
       refine q_ 68 (fun _ c1 => oL (c1.cell 0 (u := .int .i64 _) rfl rfl)) ?_
       refine wq_call 69 (by kernel_rfl) (fun w1 c1 => op_call (by kernel_rfl)) (fun w1 c1 => (m_strconv_Itoa_ok N w1 ((ix p1.Items p2).Count) (hs_tab ht c1) r27 h28).mono (fun _ _ ⟨_, hx, hu⟩ => ⟨hx, c1.call hu⟩)) ?_
       refine q_ 70 (fun _ _ => oF 3 3 rfl) ?_
       refine q_ 71 (fun _ c1 => oL (c1.cell 0 (u := .int .i64 _) rfl rfl)) ?_
       refine wq_call 72 (by kernel_rfl) (fun w1 c1 => op_call (by kernel_rfl)) (fun w1 c1 => (m_strconv_Itoa_ok N w1 ((ix p1.Items p2).Price) (hs_tab ht c1) r29 h30).mono (fun _ _ ⟨_, hx, hu⟩ => ⟨hx, c1.call hu⟩)) ?_
       refine qa 2 ((13, .string _) :: (12, .string _) :: _) rfl ?_
       exact lq 8
      refine xm_next ?_
      refine cm_seq ?_
      refine sr ?_
      refine v_ 73 (fun _ _ => oF 0 0 rfl) ?_
      refine v_ 74 (fun _ c1 => oL (c1.cell 0 (u := .int .i64 _) rfl rfl)) ?_
      refine la 1 ((75, .bool _) :: _) rfl ?_
      refine nn ?_
      refine cm_cond (by kernel_rfl) rfl (fun h31 => ?_) (fun h31 => ?_)
      ·refine cm_seq ?_
       refine cm_seq ?_
       refine cm_cutE [(86, .bool ((decide ((ix p1.Items p2).Ref < 0)) || (decide ((List.length p0.Tariffs : Int) ≤ (ix p1.Items p2).Ref))))] ?_ ?_
       ·refine q_ 76 (fun _ _ => oF 1 1 rfl) ?_
        refine q_ 77 (fun _ c1 => oL (c1.cell 0 (u := .int .i64 _) rfl rfl)) ?_
        refine qd 78 (fun _ _ => op_lss rfl rfl) (fun h32 => ?_) (fun h32 => ?_)
        ·refine qa 8 ((86, .bool true) :: (85, undef) :: (84, undef) :: (83, undef) :: (82, undef) :: (81, undef) :: (80, undef) :: (79, .bool true) :: _) rfl ?_
         exact leaf_q (sub_out 11 _ rfl (by kernel_rfl) ⟨(congrArg Value.bool (by rw [decide_eq_true h32] <;> rfl)), trivial⟩)
        ·refine qa 1 ((79, .bool false) :: _) rfl ?_
         refine q_ 80 (fun _ _ => oF 1 1 rfl) ?_
         refine q_ 81 (fun _ c1 => oL (c1.cell 0 (u := .int .i64 _) rfl rfl)) ?_
         refine q_ 82 (fun _ _ => oF 4 4 rfl) ?_
         refine q_ 83 (fun _ c1 => oL (c1.cell 2 (u := .slice _ _ _) rfl rfl)) ?_
         refine q_ 84 (fun _ _ => op_lenN rfl (by kernel_rfl) hz_p05.2.2) ?_
         refine qa 2 ((86, .bool _) :: (85, .bool _) :: _) rfl ?_
         exact leaf_q (sub_out 11 _ rfl (by kernel_rfl) ⟨(congrArg Value.bool (by rw [decide_eq_false h32] <;> rfl)), trivial⟩)
       refine xm_next ?_
       refine cm_condB (by kernel_rfl) rfl (fun h33 => ?_) (fun h33 => ?_)
       ·refine sr ?_
        refine la 2 ((7, .int .i64 _) :: (6, .string _) :: _) rfl ?_
        refine nn ?_
        refine cm_ret ?_
        refine xm_thenR ?_
        refine xm_thenR ?_
        exact xm_retTT rfl (by kernel_rfl) (show _ = Value.string _ from rfl) (by kernel_rfl) (show _ = Value.int .i64 _ from rfl) fun w1 c1 => ⟨(), rfl, hsub [] (by kernel_rfl) rfl w1 c1⟩
       ·refine sk ?_
        refine sr ?_
        refine la 1 ((87, .string _) :: _) rfl ?_
        refine lm_ck (fun h34 => ?_)
        refine v_ 88 (fun _ _ => op_addS rfl rfl h34) ?_
        refine lm_ck (fun h35 => ?_)
        refine v_ 89 (fun _ _ => op_addS rfl rfl h35) ?_
        refine la 1 ((90, .string _) :: _) rfl ?_
        refine lm_ck (fun h36 => ?_)
        refine v_ 91 (fun _ _ => op_addS rfl rfl h36) ?_
        refine lm_ck (fun h37 => ?_)
        refine v_ 92 (fun _ _ => op_addS rfl rfl h37) ?_
        refine la 1 ((93, .string _) :: _) rfl ?_
        refine lm_ck (fun h38 => ?_)
        refine v_ 94 (fun _ _ => op_addS rfl rfl h38) ?_
        refine la 1 ((95, .string _) :: _) rfl ?_
        refine lm_ck (fun h39 => ?_)
        refine v_ 96 (fun _ _ => op_addS rfl rfl h39) ?_
        refine la 2 ((7, .int .i64 _) :: (6, .string _) :: _) rfl ?_
        refine nn ?_
        refine cm_ret ?_
        refine xm_thenR ?_
        exact xm_retTT rfl (by kernel_rfl) (show _ = Value.string _ from rfl) (by kernel_rfl) (show _ = Value.int .i64 _ from rfl) fun w1 c1 => ⟨(), rfl, hsub [] (by kernel_rfl) rfl w1 c1⟩
      ·refine sk ?_
       refine sr ?_
       refine la 1 ((14, .int .i64 _) :: _) rfl ?_
       refine nn ?_
       refine cm_join (σ := Int) (ξ := Unit) (fun s58 u59 => [(3, .pointer (some ⟨b5, 0, none⟩)), (9, .pointer (some ⟨b13, 0, none⟩)), (10, .string r16), (11, .string ((⟨#[58, 32]⟩ : ByteArray) ++ r18)), (12, .string r27), (13, .string r29), (14, .int .i64 s58)]) (fun s58 u59 => [blkE b5 28 [.slice A_p01 n_p01 c_p01, .slice A_p02 n_p02 c_p02, .slice A_p03 n_p03 c_p03, .slice A_p04 n_p04 c_p04, .slice A_p05 n_p05 c_p05, .int .i64 p0.Gap], blkE b13 66 [.int .i64 ((ix p1.Items p2).Kind), .int .i64 ((ix p1.Items p2).Ref), .int .i64 ((ix p1.Items p2).Count), .int .i64 ((ix p1.Items p2).Price), .int .i64 ((ix p1.Items p2).Amount)]]) ?_ ?_
       ·refine cm_block ?_
        refine cm_loop (σ := Int) (ξ := Unit) (fun s72 u73 => [(3, .pointer (some ⟨b5, 0, none⟩)), (9, .pointer (some ⟨b13, 0, none⟩)), (10, .string r16), (11, .string ((⟨#[58, 32]⟩ : ByteArray) ++ r18)), (12, .string r27), (13, .string r29), (14, .int .i64 s72)]) (fun s72 u73 => [blkE b5 28 [.slice A_p01 n_p01 c_p01, .slice A_p02 n_p02 c_p02, .slice A_p03 n_p03 c_p03, .slice A_p04 n_p04 c_p04, .slice A_p05 n_p05 c_p05, .int .i64 p0.Gap], blkE b13 66 [.int .i64 ((ix p1.Items p2).Kind), .int .i64 ((ix p1.Items p2).Ref), .int .i64 ((ix p1.Items p2).Count), .int .i64 ((ix p1.Items p2).Price), .int .i64 ((ix p1.Items p2).Amount)]]) () ?_ ?_ ?_
        ·exact sq
        ·exact sh [2, 0]
        intro s72 u73
        refine cm_seq ?_
        refine cm_seq ?_
        refine cm_ck (fun h74 => ?_)
        refine cm_drawn [(112, .bool ((decide (s72 < (List.length p0.Emptyings : Int))) && (decide ((ix p0.Emptyings s72).ID ≠ (ix p1.Items p2).Ref))))] (by kernel_rfl) (by kernel_rfl) ?_ ?_
        ·refine qa 1 ((97, .int .i64 _) :: _) rfl ?_
         refine q_ 98 (fun _ _ => oF 3 3 rfl) ?_
         refine q_ 99 (fun _ c1 => oL (c1.cell 0 (u := .slice _ _ _) rfl rfl)) ?_
         refine q_ 100 (fun _ _ => op_lenN rfl (by kernel_rfl) hz_p04.2.2) ?_
         refine qd 101 (fun _ _ => op_lss rfl rfl) (fun h75 => ?_) (fun h75 => ?_)
         ·refine qa 1 ((102, .bool true) :: _) rfl ?_
          refine q_ 103 (fun _ _ => oF 3 3 rfl) ?_
          refine q_ 104 (fun _ c1 => oL (c1.cell 0 (u := .slice _ _ _) rfl rfl)) ?_
          refine qa 1 ((105, .int .i64 _) :: _) rfl ?_
          refine q_ 106 (fun _ c1 => oI 7 rfl rfl ((hr_p04.old c1).addr (h74 (by rw [decide_eq_true h75] <;> rfl)).1 (h74 (by rw [decide_eq_true h75] <;> rfl)).2) hz_p04.2.2 (h74 (by rw [decide_eq_true h75] <;> rfl))) ?_
          refine q_ 107 (fun _ _ => op_field0 rfl (by kernel_rfl)) ?_
          refine q_ 108 (fun _ c1 => oL (v := .int .i64 ((ix p0.Emptyings s72).ID)) ((hr_p04.old c1).cell0 (h74 (by rw [decide_eq_true h75] <;> rfl)).1 (h74 (by rw [decide_eq_true h75] <;> rfl)).2 rfl)) ?_
          refine q_ 109 (fun _ _ => oF 1 1 rfl) ?_
          refine q_ 110 (fun _ c1 => oL (c1.cell 1 (u := .int .i64 _) rfl rfl)) ?_
          refine qa 2 ((112, .bool _) :: (111, .bool _) :: _) rfl ?_
          exact leaf_q (sub_out 16 _ rfl (by kernel_rfl) ⟨(congrArg Value.bool (by rw [decide_eq_true h75] <;> rfl)), trivial⟩)
         ·refine qa 11 ((112, .bool false) :: (111, undef) :: (110, undef) :: (109, undef) :: (108, undef) :: (107, undef) :: (106, undef) :: (105, undef) :: (104, undef) :: (103, undef) :: (102, .bool false) :: _) rfl ?_
          exact leaf_q (sub_out 16 _ rfl (by kernel_rfl) ⟨(congrArg Value.bool (by rw [decide_eq_false h75] <;> rfl)), trivial⟩)
        refine xm_next ?_
        refine cm_condB (by kernel_rfl) rfl (fun h76 => ?_) (fun h76 => ?_)
        ·refine sk ?_
         refine cm_block ?_
         refine cm_region ?_
         refine la 1 ((113, .int .i64 _) :: _) rfl ?_
         refine lm_ck (fun h77 => ?_)
         refine v_ 114 (fun _ _ => op_add rfl rfl h77) ?_
         refine la 1 ((14, .int .i64 _) :: _) rfl ?_
         refine lm_nil ?_
         refine xm_inN ?_
         exact xm_lnext () sq (sh [0, 1])
        ·refine cm_exit ?_
         refine xm_thenE ?_
         refine xm_lexit ?_
         refine xm_here ?_
         exact xm_lnext () sq (sh [0, 1])
       intro s58 u59
       refine cm_seq ?_
       refine sr ?_
       refine la 1 ((115, .int .i64 _) :: _) rfl ?_
       refine v_ 116 (fun _ _ => oF 3 3 rfl) ?_
       refine v_ 117 (fun _ c1 => oL (c1.cell 0 (u := .slice _ _ _) rfl rfl)) ?_
       refine v_ 118 (fun _ _ => op_lenN rfl (by kernel_rfl) hz_p04.2.2) ?_
       refine la 1 ((119, .bool _) :: _) rfl ?_
       refine nn ?_
       refine cm_cond (by kernel_rfl) rfl (fun h78 => ?_) (fun h78 => ?_)
       ·refine sr ?_
        refine la 2 ((7, .int .i64 _) :: (6, .string _) :: _) rfl ?_
        refine nn ?_
        refine cm_ret ?_
        refine xm_thenR ?_
        exact xm_retTT rfl (by kernel_rfl) (show _ = Value.string _ from rfl) (by kernel_rfl) (show _ = Value.int .i64 _ from rfl) fun w1 c1 => ⟨(), rfl, hsub [] (by kernel_rfl) rfl w1 c1⟩
       ·refine sk ?_
        refine sr ?_
        refine v_ 120 (fun _ _ => oF 3 3 rfl) ?_
        refine v_ 121 (fun _ c1 => oL (c1.cell 0 (u := .slice _ _ _) rfl rfl)) ?_
        refine la 1 ((122, .int .i64 _) :: _) rfl ?_
        refine lm_ck (fun h79 => ?_)
        refine v_ 123 (fun _ c1 => oI 7 rfl rfl ((hr_p04.old c1).addr h79.1 h79.2) hz_p04.2.2 h79) ?_
        refine v_ 124 (fun _ c1 => oR [.int .i64 ((ix p0.Emptyings s58).ID), .int .i64 ((ix p0.Emptyings s58).Container), .int .i64 ((ix p0.Emptyings s58).Vehicle), .int .i64 ((ix p0.Emptyings s58).At), .int .i64 ((ix p0.Emptyings s58).Mass.Lo), .int .i64 ((ix p0.Emptyings s58).Mass.Hi), .bool ((ix p0.Emptyings s58).Void)] ((hr_p04.old c1).row h79.1 h79.2)) ?_
        refine lm_alloc 15 [.int .i64 0, .int .i64 0, .int .i64 0, .int .i64 0, .int .i64 0, .int .i64 0, .bool false] (v := .agg #[.int .i64 0, .int .i64 0, .int .i64 0, .int .i64 0, .int .i64 0, .int .i64 0, .bool false]) (by kernel_rfl) (by kernel_rfl) rfl ?_
        intro b80
        refine lm_storeA 0 [.int .i64 _, .int .i64 _, .int .i64 _, .int .i64 _, .int .i64 _, .int .i64 _, .bool _] [_, _, _, _, _, _, _] (H' := [blkE _ _ [_, _, _, _, _, _, _], _, _]) (by kernel_rfl) rfl rfl (by kernel_rfl) rfl rfl (by kernel_rfl) rfl rfl ?_
        refine nn ?_
        refine cm_seq ?_
        refine sr ?_
        refine v_ 125 (fun _ _ => oF 0 0 rfl) ?_
        refine v_ 126 (fun _ c1 => oL (c1.cell 2 (u := .int .i64 _) rfl rfl)) ?_
        refine la 1 ((127, .bool _) :: _) rfl ?_
        refine nn ?_
        refine cm_cond (by kernel_rfl) rfl (fun h81 => ?_) (fun h81 => ?_)
        ·refine cm_seq ?_
         refine cm_ck (fun h82 => ?_)
         refine cm_ck (fun h83 => ?_)
         refine cm_bind fun r84 h85 => ?_
         refine cm_ck (fun h86 => ?_)
         refine cm_ck (fun h87 => ?_)
         refine cm_bind fun r88 h89 => ?_
         refine cm_ck (fun h90 => ?_)
         refine cm_ck (fun h91 => ?_)
         refine cm_ck (fun h92 => ?_)
         refine cm_ck (fun h93 => ?_)
         refine cm_ck (fun h94 => ?_)
         refine cm_ck (fun h95 => ?_)
         refine cm_drawn [(6, .string (((((((((((⟨#[119, 101, 105, 103, 104, 116, 32, 111, 102, 32, 101, 109, 112, 116, 121, 105, 110, 103, 32]⟩ : ByteArray) ++ r16) ++ (⟨#[32, 102, 114, 111, 109, 32]⟩ : ByteArray)) ++ r84) ++ (⟨#[32, 116, 111, 32]⟩ : ByteArray)) ++ r88) ++ (⟨#[32, 103, 114, 97, 109, 115, 58, 32]⟩ : ByteArray)) ++ r27) ++ (⟨#[32, 107, 103, 32, 97, 116, 32]⟩ : ByteArray)) ++ r29) ++ ((⟨#[58, 32]⟩ : ByteArray) ++ r18))), (7, .int .i64 0)] (by kernel_rfl) (by kernel_rfl) ?_ ?_
         ·refine qa 1 ((128, .string _) :: _) rfl ?_
          refine q_ 129 (fun _ _ => op_addS rfl rfl h82) ?_
          refine q_ 130 (fun _ _ => op_addS rfl rfl h83) ?_
          refine q_ 131 (fun _ _ => oF 4 4 rfl) ?_
          refine q_ 132 (fun _ _ => oF 0 4 rfl) ?_
          refine q_ 133 (fun _ c1 => oL (c1.cell 0 (u := .int .i64 _) rfl rfl)) ?_
          refine wq_call 134 (by kernel_rfl) (fun w1 c1 => op_call (by kernel_rfl)) (fun w1 c1 => (m_strconv_Itoa_ok N w1 ((ix p0.Emptyings s58).Mass.Lo) (hs_tab ht c1) r84 h85).mono (fun _ _ ⟨_, hx, hu⟩ => ⟨hx, c1.call hu⟩)) ?_
          refine q_ 135 (fun _ _ => op_addS rfl rfl h86) ?_
          refine q_ 136 (fun _ _ => op_addS rfl rfl h87) ?_
          refine q_ 137 (fun _ _ => oF 4 4 rfl) ?_
          refine q_ 138 (fun _ _ => oF 1 5 rfl) ?_
          refine q_ 139 (fun _ c1 => oL (c1.cell 0 (u := .int .i64 _) rfl rfl)) ?_
          refine wq_call 140 (by kernel_rfl) (fun w1 c1 => op_call (by kernel_rfl)) (fun w1 c1 => (m_strconv_Itoa_ok N w1 ((ix p0.Emptyings s58).Mass.Hi) (hs_tab ht c1) r88 h89).mono (fun _ _ ⟨_, hx, hu⟩ => ⟨hx, c1.call hu⟩)) ?_
          refine q_ 141 (fun _ _ => op_addS rfl rfl h90) ?_
          refine q_ 142 (fun _ _ => op_addS rfl rfl h91) ?_
          refine qa 1 ((143, .string _) :: _) rfl ?_
          refine q_ 144 (fun _ _ => op_addS rfl rfl h92) ?_
          refine q_ 145 (fun _ _ => op_addS rfl rfl h93) ?_
          refine qa 1 ((146, .string _) :: _) rfl ?_
          refine q_ 147 (fun _ _ => op_addS rfl rfl h94) ?_
          refine qa 1 ((148, .string _) :: _) rfl ?_
          refine q_ 149 (fun _ _ => op_addS rfl rfl h95) ?_
          refine qa 2 ((7, .int .i64 _) :: (6, .string _) :: _) rfl ?_
          exact lq 24
         refine xm_next ?_
         refine cm_ret ?_
         refine xm_thenR ?_
         exact xm_retTT rfl (by kernel_rfl) (show _ = Value.string _ from rfl) (by kernel_rfl) (show _ = Value.int .i64 _ from rfl) fun w1 c1 => ⟨(), rfl, hsub [] (by kernel_rfl) rfl w1 c1⟩
        ·refine sk ?_
         refine cm_seq ?_
         refine cm_ck (fun h96 => ?_)
         refine cm_ck (fun h97 => ?_)
         refine cm_ck (fun h98 => ?_)
         refine cm_ck (fun h99 => ?_)
         refine cm_ck (fun h100 => ?_)
         refine cm_ck (fun h101 => ?_)
         refine cm_bind fun r102 h103 => ?_
         refine cm_ck (fun h104 => ?_)
         refine cm_ck (fun h105 => ?_)
         refine cm_ck (fun h106 => ?_)
         refine cm_bind fun r107 h108 => ?_
         refine cm_ck (fun h109 => ?_)
         refine cm_ck (fun h110 => ?_)
         refine cm_bind fun r111 h112 => ?_
         refine cm_ck (fun h113 => ?_)
         refine cm_ck (fun h114 => ?_)
         refine cm_drawn [(6, .string (((((((((((⟨#[101, 109, 112, 116, 121, 105, 110, 103, 32]⟩ : ByteArray) ++ r16) ++ (⟨#[32, 111, 102, 32, 99, 111, 110, 116, 97, 105, 110, 101, 114, 32]⟩ : ByteArray)) ++ ((ix p0.Containers ((ix p0.Emptyings s58).Container)).ID)) ++ (⟨#[32, 111, 110, 32, 100, 97, 121, 32]⟩ : ByteArray)) ++ r102) ++ (⟨#[32, 97, 116, 32, 115, 101, 99, 111, 110, 100, 32]⟩ : ByteArray)) ++ r107) ++ (⟨#[32, 98, 121, 32, 118, 101, 104, 105, 99, 108, 101, 32]⟩ : ByteArray)) ++ r111) ++ ((⟨#[58, 32]⟩ : ByteArray) ++ r18))), (7, .int .i64 0)] (by kernel_rfl) (by kernel_rfl) ?_ ?_
         ·refine qa 1 ((150, .string _) :: _) rfl ?_
          refine q_ 151 (fun _ _ => op_addS rfl rfl h96) ?_
          refine q_ 152 (fun _ _ => op_addS rfl rfl h97) ?_
          refine q_ 153 (fun _ _ => oF 1 1 rfl) ?_
          refine q_ 154 (fun _ c1 => oL (c1.cell 1 (u := .slice _ _ _) rfl rfl)) ?_
          refine q_ 155 (fun _ _ => oF 1 1 rfl) ?_
          refine q_ 156 (fun _ c1 => oL (c1.cell 0 (u := .int .i64 _) rfl rfl)) ?_
          refine q_ 157 (fun _ c1 => oI 5 rfl rfl ((hr_p02.old c1).addr h98.1 h98.2) hz_p02.2.2 h98) ?_
          refine q_ 158 (fun _ _ => op_field0 rfl (by kernel_rfl)) ?_
          refine q_ 159 (fun _ c1 => oL (v := .string ((ix p0.Containers ((ix p0.Emptyings s58).Container)).ID)) ((hr_p02.old c1).cell0 h98.1 h98.2 rfl)) ?_
          refine q_ 160 (fun _ _ => op_addS rfl rfl h99) ?_
          refine q_ 161 (fun _ _ => op_addS rfl rfl h100) ?_
          refine q_ 162 (fun _ _ => oF 3 3 rfl) ?_
          refine q_ 163 (fun _ c1 => oL (c1.cell 0 (u := .int .i64 _) rfl rfl)) ?_
          refine q_ 164 (fun _ _ => op_quoK rfl rfl (by kernel_rfl) h101) ?_
          refine wq_call 165 (by kernel_rfl) (fun w1 c1 => op_call (by kernel_rfl)) (fun w1 c1 => (m_strconv_Itoa_ok N w1 (Int.tdiv ((ix p0.Emptyings s58).At) 86400) (hs_tab ht c1) r102 h103).mono (fun _ _ ⟨_, hx, hu⟩ => ⟨hx, c1.call hu⟩)) ?_
          refine q_ 166 (fun _ _ => op_addS rfl rfl h104) ?_
          refine q_ 167 (fun _ _ => op_addS rfl rfl h105) ?_
          refine q_ 168 (fun _ _ => oF 3 3 rfl) ?_
          refine q_ 169 (fun _ c1 => oL (c1.cell 0 (u := .int .i64 _) rfl rfl)) ?_
          refine q_ 170 (fun _ _ => op_remK rfl rfl (by kernel_rfl) h106) ?_
          refine wq_call 171 (by kernel_rfl) (fun w1 c1 => op_call (by kernel_rfl)) (fun w1 c1 => (m_strconv_Itoa_ok N w1 (Int.tmod ((ix p0.Emptyings s58).At) 86400) (hs_tab ht c1) r107 h108).mono (fun _ _ ⟨_, hx, hu⟩ => ⟨hx, c1.call hu⟩)) ?_
          refine q_ 172 (fun _ _ => op_addS rfl rfl h109) ?_
          refine q_ 173 (fun _ _ => op_addS rfl rfl h110) ?_
          refine q_ 174 (fun _ _ => oF 2 2 rfl) ?_
          refine q_ 175 (fun _ c1 => oL (c1.cell 0 (u := .int .i64 _) rfl rfl)) ?_
          refine wq_call 176 (by kernel_rfl) (fun w1 c1 => op_call (by kernel_rfl)) (fun w1 c1 => (m_strconv_Itoa_ok N w1 ((ix p0.Emptyings s58).Vehicle) (hs_tab ht c1) r111 h112).mono (fun _ _ ⟨_, hx, hu⟩ => ⟨hx, c1.call hu⟩)) ?_
          refine q_ 177 (fun _ _ => op_addS rfl rfl h113) ?_
          refine qa 1 ((178, .string _) :: _) rfl ?_
          refine q_ 179 (fun _ _ => op_addS rfl rfl h114) ?_
          refine qa 2 ((7, .int .i64 _) :: (6, .string _) :: _) rfl ?_
          exact lq 32
         refine xm_next ?_
         refine cm_ret ?_
         exact xm_retTT rfl (by kernel_rfl) (show _ = Value.string _ from rfl) (by kernel_rfl) (show _ = Value.int .i64 _ from rfl) fun w1 c1 => ⟨(), rfl, hsub [] (by kernel_rfl) rfl w1 c1⟩
end Go.Proofs.YtpbgfdmkebnjgaaGreatDoor
