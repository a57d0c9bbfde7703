/- Two structs that differ: what their comparison, run as a nest of ways, answers. -/
import Derived.Test.YtjoplkillkhiaaaCut
namespace Go.Proofs.Ytjoplkillkhiaaa.Cuts
theorem itb4 {α : Type} {a a' : Bool} {b b' c c' d d' : Int} {x y : α} (h : (!(a == a') || (!(b == b') || (!(c == c') || (!(d == d'))))) = true) : (if a = a' then if b = b' then if c = c' then if d = d' then x else y else y else y else y) = y := by
 by_cases h1 : a = a'
 · by_cases h2 : b = b'
   · by_cases h3 : c = c'
     · by_cases h4 : d = d'
       · subst h1 h2 h3 h4
         simp at h
       · rw [if_pos h1, if_pos h2, if_pos h3, if_neg h4]
     · rw [if_pos h1, if_pos h2, if_neg h3]
   · rw [if_pos h1, if_neg h2]
 · rw [if_neg h1]
theorem imp4 {a a' : Bool} {b b' c c' d d' : Int} (h : (!(a == a') || (!(b == b') || (!(c == c') || (!(d == d'))))) = true) : a = a' → b = b' → c = c' → ¬ d = d' := by
 intro h1 h2 h3 h4
 subst h1 h2 h3 h4
 simp at h
theorem imp5 {a a' b b' c c' d d' e e' : Int} (h : (!(a == a') || (!(b == b') || (!(c == c') || (!(d == d') || (!(e == e')))))) = true) : a = a' → b = b' → c = c' → d = d' → ¬ e = e' := by
 intro h1 h2 h3 h4 h5
 simp [h1, h2, h3, h4, h5] at h
theorem itb5 {α : Type} {a a' b b' c c' d d' e e' : Int} {x y : α} (h : (!(a == a') || (!(b == b') || (!(c == c') || (!(d == d') || (!(e == e')))))) = true) : (if a = a' then if b = b' then if c = c' then if d = d' then if e = e' then x else y else y else y else y else y) = y := by
 by_cases h1 : a = a'
 · by_cases h2 : b = b'
   · by_cases h3 : c = c'
     · by_cases h4 : d = d'
       · by_cases h5 : e = e'
         · simp [h1, h2, h3, h4, h5] at h
         · rw [if_pos h1, if_pos h2, if_pos h3, if_pos h4, if_neg h5]
       · rw [if_pos h1, if_pos h2, if_pos h3, if_neg h4]
     · rw [if_pos h1, if_pos h2, if_neg h3]
   · rw [if_pos h1, if_neg h2]
 · rw [if_neg h1]
end Go.Proofs.Ytjoplkillkhiaaa.Cuts
