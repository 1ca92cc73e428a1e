/- What is sealed and opened, in plain Lean. -/
import Derived.Test.YtcdidapkpfnphaaDoorSpecKdf
import Derived.Test.YtcdidapkpfnphaaDoorPureCtr
namespace Go.Proofs.YtcdidapkpfnphaaDoor
open Go.RowKit
abbrev bodyL (kl nl tl : List UInt8) : List UInt8 := nl ++ over (derL kl [115, 101, 97, 108]) nl tl
/-- A box: the nonce, what is hidden, and the tag of both. -/
def sealL (kl nl tl : List UInt8) : List UInt8 := bodyL kl nl tl ++ hmacL (derL kl [116, 97, 103]) (bodyL kl nl tl)
abbrev frontL (bl : List UInt8) : List UInt8 := bl.take (bl.length - 32)
def openL (kl bl : List UInt8) : List UInt8 := over (derL kl [115, 101, 97, 108]) ((frontL bl).take 16) ((frontL bl).drop 16)
/-- Is its tag right? -/
def Opens (kl bl : List UInt8) : Prop := hmacL (derL kl [116, 97, 103]) (frontL bl) = bl.drop (bl.length - 32)
theorem body_len {kl nl tl : List UInt8} (hn : nl.length = 16) (ht : tl.length ≤ 65536) : (bodyL kl nl tl).length = 16 + tl.length := by
  rw [List.length_append, over_len (derL_len _ _) hn ht, hn]
theorem sealL_len {kl nl tl : List UInt8} (hn : nl.length = 16) (ht : tl.length ≤ 65536) : (sealL kl nl tl).length = 48 + tl.length := by
  rw [sealL, List.length_append, body_len hn ht, hmacL_len]
  omega
theorem front_seal {kl nl tl : List UInt8} (hn : nl.length = 16) (ht : tl.length ≤ 65536) : frontL (sealL kl nl tl) = bodyL kl nl tl := by
  have hb := body_len (kl := kl) hn ht
  rw [frontL, sealL_len hn ht, sealL, List.take_append_of_le_length (by rw [hb]; omega), List.take_of_length_le (by rw [hb]; omega)]
theorem seal_opens {kl nl tl : List UInt8} (hn : nl.length = 16) (ht : tl.length ≤ 65536) : Opens kl (sealL kl nl tl) := by
  have hb := body_len (kl := kl) hn ht
  rw [Opens, front_seal hn ht, sealL_len hn ht, sealL, List.drop_append, List.drop_eq_nil_of_le (by rw [hb]; omega), hb, List.nil_append, show 48 + tl.length - 32 - (16 + tl.length) = 0 from by omega, List.drop_zero]
theorem open_seal {kl nl tl : List UInt8} (hn : nl.length = 16) (ht : tl.length ≤ 65536) : openL kl (sealL kl nl tl) = tl := by
  rw [openL, front_seal hn ht]
  have h1 : (bodyL kl nl tl).take 16 = nl := by rw [List.take_append_of_le_length (by omega), List.take_of_length_le (by omega)]
  have h2 : (bodyL kl nl tl).drop 16 = over (derL kl [115, 101, 97, 108]) nl tl := by
    rw [List.drop_append, List.drop_eq_nil_of_le (by omega), List.nil_append, show 16 - nl.length = 0 from by omega, List.drop_zero]
  rw [h1, h2]
  exact over_back (derL_len _ _) hn ht
theorem front_len (bl : List UInt8) : (frontL bl).length = bl.length - 32 := by rw [frontL, List.length_take]; omega
/-- The document's own cut. -/
theorem open_ref {kl bl : List UInt8} (h : 48 ≤ bl.length) : over (derL kl [115, 101, 97, 108]) (bl.take 16) ((bl.drop 16).take (bl.length - 32 - 16)) = openL kl bl := by
  rw [openL, frontL, List.take_take, Nat.min_eq_left (by omega), List.drop_take]
theorem strFR_ok {kl nl : List UInt8} (hk : kl.length = 32) (hn : nl.length = 16) {n : Nat} (h : n ≤ 65536) : strFR kl nl n = 0 := by rw [← strF_eq]; exact strF_ok hk hn h
def OkS (kl nl : List UInt8) : Prop := kl.length = 32 ∧ nl.length = 16
def OkO (kl bl : List UInt8) : Prop := kl.length = 32 ∧ 48 ≤ bl.length ∧ bl.length ≤ 60048
theorem drop_len (bl : List UInt8) : (bl.drop (bl.length - 32)).length ≤ 32 := by rw [List.length_drop]; omega
theorem openL_le (kl bl : List UInt8) : (openL kl bl).length ≤ bl.length := by
  have h := over_le (derL kl [115, 101, 97, 108]) ((frontL bl).take 16) ((frontL bl).drop 16)
  rw [openL]
  have h2 : ((frontL bl).drop 16).length ≤ bl.length := by rw [List.length_drop, front_len]; omega
  omega
end Go.Proofs.YtcdidapkpfnphaaDoor
