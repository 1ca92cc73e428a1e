/- Laws of tags: a key filled up, a longer key and its sum; what the tag of nothing begins with. -/
import Derived.Test.YtcdidapkpfnphaaDoorSpecMac
import Derived.Test.YtcdidapkpfnphaaDoorPureSha
namespace Go.Proofs.YtcdidapkpfnphaaDoor
open Go.RowKit
theorem macKey_of {k : List UInt8} (h : k.length = 64) : macKey k = k := by
  rw [macKey, keyL, if_neg (by omega), padK, h]
  simp
theorem macKey_twice (kl : List UInt8) : macKey (macKey kl) = macKey kl := macKey_of (macKey_len kl)
theorem hmac_key (kl tl : List UInt8) : hmacL (macKey kl) tl = hmacL kl tl := by rw [hmacL, hmacL, macKey_twice]
theorem macKey_more {kl : List UInt8} {m : Nat} (h : kl.length + m ≤ 64) : macKey (kl ++ List.replicate m 0) = macKey kl := by
  rw [macKey, macKey, keyL, keyL, if_neg (by rw [List.length_append, List.length_replicate]; omega), if_neg (by omega), padK, padK, List.append_assoc, List.replicate_append_replicate]
  congr 2
  rw [List.length_append, List.length_replicate]
  omega
theorem hmac_more {kl tl : List UInt8} {m : Nat} (h : kl.length + m ≤ 64) : hmacL (kl ++ List.replicate m 0) tl = hmacL kl tl := by rw [hmacL, hmacL, macKey_more h]
theorem hmac_short (kl tl : List UInt8) : ¬ hmacL kl tl = (hmacL kl tl).take 31 := fun h => by
  have := congrArg List.length h
  rw [List.length_take, hmacL_len] at this
  omega
def hmacE (kl tl : List UInt8) : List UInt8 := shaE (overL (macKey kl) 92 ++ shaE (overL (macKey kl) 54 ++ tl))
theorem hmacE_eq (kl tl : List UInt8) : hmacL kl tl = hmacE kl tl := by rw [hmacL, hmacE, shaE_eq, shaE_eq]
set_option maxRecDepth 100000 in
theorem mac_nil : (hmacL [] []).getD 0 0 = 182 ∧ (hmacL [] []).getD 1 0 = 19 ∧ (hmacL [] []).getD 2 0 = 103 ∧ (hmacL [] []).getD 3 0 = 154 := by
  rw [hmacE_eq]
  decide +kernel
end Go.Proofs.YtcdidapkpfnphaaDoor
