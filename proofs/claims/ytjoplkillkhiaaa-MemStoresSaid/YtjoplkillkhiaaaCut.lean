/- A statement and what is left to be shown for it: a great proof in declarations (the left statements are found by unifying). -/
import Derived.Test.YtjoplkillkhiaaaProg
namespace Go.Proofs.Ytjoplkillkhiaaa.Cuts
structure Hid (P : Prop) : Prop where
  out : P
structure Cut1 (G : Prop) where
  P1 : Prop
  h : Hid P1 → G
structure Cut2 (G : Prop) where
  P1 : Prop
  P2 : Prop
  h : Hid P1 → Hid P2 → G
structure Cut3 (G : Prop) where
  P1 : Prop
  P2 : Prop
  P3 : Prop
  h : Hid P1 → Hid P2 → Hid P3 → G
structure Cut4 (G : Prop) where
  P1 : Prop
  P2 : Prop
  P3 : Prop
  P4 : Prop
  h : Hid P1 → Hid P2 → Hid P3 → Hid P4 → G
structure Cut5 (G : Prop) where
  P1 : Prop
  P2 : Prop
  P3 : Prop
  P4 : Prop
  P5 : Prop
  h : Hid P1 → Hid P2 → Hid P3 → Hid P4 → Hid P5 → G
structure Cut6 (G : Prop) where
  P1 : Prop
  P2 : Prop
  P3 : Prop
  P4 : Prop
  P5 : Prop
  P6 : Prop
  h : Hid P1 → Hid P2 → Hid P3 → Hid P4 → Hid P5 → Hid P6 → G
structure Cut7 (G : Prop) where
  P1 : Prop
  P2 : Prop
  P3 : Prop
  P4 : Prop
  P5 : Prop
  P6 : Prop
  P7 : Prop
  h : Hid P1 → Hid P2 → Hid P3 → Hid P4 → Hid P5 → Hid P6 → Hid P7 → G
structure Cut8 (G : Prop) where
  P1 : Prop
  P2 : Prop
  P3 : Prop
  P4 : Prop
  P5 : Prop
  P6 : Prop
  P7 : Prop
  P8 : Prop
  h : Hid P1 → Hid P2 → Hid P3 → Hid P4 → Hid P5 → Hid P6 → Hid P7 → Hid P8 → G
end Go.Proofs.Ytjoplkillkhiaaa.Cuts
