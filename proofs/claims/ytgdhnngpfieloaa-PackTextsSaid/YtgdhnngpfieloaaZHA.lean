/- The layer of abstract values, joined: HA. -/

section
namespace Go.Proofs.Ytgdhnngpfieloaa.Hm.Sha
set_option linter.unusedVariables false
set_option linter.unusedSimpArgs false
def X7r (a b c d : UInt8) : BitVec 32 := BitVec.ofNat 32 a.toNat <<< 24 ||| BitVec.ofNat 32 b.toNat <<< 16 ||| BitVec.ofNat 32 c.toNat <<< 8 ||| BitVec.ofNat 32 d.toNat
def Fy (b : List UInt8) (i : Nat) : BitVec 32 := X7r (b.getD (4 * i) 0) (b.getD (4 * i + 1) 0) (b.getD (4 * i + 2) 0) (b.getD (4 * i + 3) 0)
def smx (x : BitVec 32) (a b c : Nat) : BitVec 32 := x.rotateRight a ^^^ x.rotateRight b ^^^ x >>> c
def tn (x : BitVec 32) (a b c : Nat) : BitVec 32 := x.rotateRight a ^^^ x.rotateRight b ^^^ x.rotateRight c
def X7s (l : List (BitVec 32)) (t : Nat) : BitVec 32 := l.getD (t - 16) 0 + smx (l.getD (t - 15) 0) 7 18 3 + l.getD (t - 7) 0 + smx (l.getD (t - 2) 0) 17 19 10
def ws (b : List UInt8) : Nat → List (BitVec 32)
 | 0 => []
 | t + 1 => ws b t ++ [if t < 16 then Fy b t else X7s (ws b t) t]
def X5d : List (BitVec 32) := [
 0x428a2f98#32, 0x71374491#32, 0xb5c0fbcf#32, 0xe9b5dba5#32, 0x3956c25b#32, 0x59f111f1#32, 0x923f82a4#32, 0xab1c5ed5#32,
 0xd807aa98#32, 0x12835b01#32, 0x243185be#32, 0x550c7dc3#32, 0x72be5d74#32, 0x80deb1fe#32, 0x9bdc06a7#32, 0xc19bf174#32,
 0xe49b69c1#32, 0xefbe4786#32, 0x0fc19dc6#32, 0x240ca1cc#32, 0x2de92c6f#32, 0x4a7484aa#32, 0x5cb0a9dc#32, 0x76f988da#32,
 0x983e5152#32, 0xa831c66d#32, 0xb00327c8#32, 0xbf597fc7#32, 0xc6e00bf3#32, 0xd5a79147#32, 0x06ca6351#32, 0x14292967#32,
 0x27b70a85#32, 0x2e1b2138#32, 0x4d2c6dfc#32, 0x53380d13#32, 0x650a7354#32, 0x766a0abb#32, 0x81c2c92e#32, 0x92722c85#32,
 0xa2bfe8a1#32, 0xa81a664b#32, 0xc24b8b70#32, 0xc76c51a3#32, 0xd192e819#32, 0xd6990624#32, 0xf40e3585#32, 0x106aa070#32,
 0x19a4c116#32, 0x1e376c08#32, 0x2748774c#32, 0x34b0bcb5#32, 0x391c0cb3#32, 0x4ed8aa4a#32, 0x5b9cca4f#32, 0x682e6ff3#32,
 0x748f82ee#32, 0x78a5636f#32, 0x84c87814#32, 0x8cc70208#32, 0x90befffa#32, 0xa4506ceb#32, 0xbef9a3f7#32, 0xc67178f2#32]
structure V8 where
 (a b c d e f g h : BitVec 32)
def rnd (k w : BitVec 32) (v : V8) : V8 :=
 let s := v.h + tn v.e 6 11 25 + ((v.e &&& v.f) ^^^ (~~~v.e &&& v.g)) + k + w
 let u := tn v.a 2 13 22 + ((v.a &&& v.b) ^^^ (v.a &&& v.c) ^^^ (v.b &&& v.c))
 ⟨s + u, v.a, v.b, v.c, v.d + s, v.e, v.f, v.g⟩
def X1p (w : List (BitVec 32)) (v : V8) : Nat → V8
 | 0 => v
 | t + 1 => rnd (X5d.getD t 0) (w.getD t 0) (X1p w v t)
def block (h : V8) (b : List UInt8) : V8 :=
 let v := X1p (ws b 64) h 64
 ⟨h.a + v.a, h.b + v.b, h.c + v.c, h.d + v.d, h.e + v.e, h.f + v.f, h.g + v.g, h.h + v.h⟩
def X5e : V8 := ⟨0x6a09e667#32, 0xbb67ae85#32, 0x3c6ef372#32, 0xa54ff53a#32, 0x510e527f#32, 0x9b05688c#32, 0x1f83d9ab#32, 0x5be0cd19#32⟩
end Go.Proofs.Ytgdhnngpfieloaa.Hm.Sha
end
