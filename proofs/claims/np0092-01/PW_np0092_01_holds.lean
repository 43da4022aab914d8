import PyProof.Rows.All
import Wide.All
import OpenK.AllK
import Wide.FinOn
import PySem.Challenge.RW_np0092_01
set_option Elab.async false
set_option maxRecDepth 100000
set_option maxHeartbeats 8000000
set_option linter.all false
set_option genSizeOf false
set_option genSizeOfSpec false
namespace Mine
noncomputable section
section
open PySem
section
universe r1 r2 r3 r4 r5 r6 r7 r8 r9 ra rb rc
variable {T1 : Sort r1} {T2 : Sort r2} {T3 : Sort r3} {T4 : Sort r4} {T5 : Sort r5} {T6 : Sort r6} {T7 : Sort r7} {T8 : Sort r8} {T9 : Sort r9} {T10 : Sort ra} {T11 : Sort rb} {T12 : Sort rc} {Q : Prop}
section
variable {A B C D E F G H I J K L M N : Prop}
theorem bK (h : A /\ B) (k : A -> B -> Q) : Q := And.elim k h
theorem bN (h : A /\ B /\ C) (k : A -> B -> C -> Q) : Q := And.elim (λ a h => bK h (k a)) h
theorem iH (h : A /\ B /\ C /\ D) (k : A -> B -> C -> D -> Q) : Q := And.elim (λ a h => bN h (k a)) h
theorem iW (h : A /\ B /\ C /\ D /\ E) (k : A -> B -> C -> D -> E -> Q) : Q := And.elim (λ a h => iH h (k a)) h
theorem qe (h : A /\ B /\ C /\ D /\ E /\ F) (k : A -> B -> C -> D -> E -> F -> Q) : Q := And.elim (λ a h => iW h (k a)) h
theorem BH (h : A /\ B /\ C /\ D /\ E /\ F /\ G) (k : A -> B -> C -> D -> E -> F -> G -> Q) : Q := And.elim (λ a h => qe h (k a)) h
theorem zB (h : A /\ B /\ C /\ D /\ E /\ F /\ G /\ H) (k : A -> B -> C -> D -> E -> F -> G -> H -> Q) : Q := And.elim (λ a h => BH h (k a)) h
theorem BB (h : A /\ B /\ C /\ D /\ E /\ F /\ G /\ H /\ I) (k : A -> B -> C -> D -> E -> F -> G -> H -> I -> Q) : Q := And.elim (λ a h => zB h (k a)) h
theorem Fu (h : A /\ B /\ C /\ D /\ E /\ F /\ G /\ H /\ I /\ J) (k : A -> B -> C -> D -> E -> F -> G -> H -> I -> J -> Q) : Q := And.elim (λ a h => BB h (k a)) h
theorem Co (h : A /\ B /\ C /\ D /\ E /\ F /\ G /\ H /\ I /\ J /\ K) (k : A -> B -> C -> D -> E -> F -> G -> H -> I -> J -> K -> Q) : Q := And.elim (λ a h => Fu h (k a)) h
theorem CJ (h : A /\ B /\ C /\ D /\ E /\ F /\ G /\ H /\ I /\ J /\ K /\ L) (k : A -> B -> C -> D -> E -> F -> G -> H -> I -> J -> K -> L -> Q) : Q := And.elim (λ a h => Co h (k a)) h
theorem Fy (h : A /\ B /\ C /\ D /\ E /\ F /\ G /\ H /\ I /\ J /\ K /\ L /\ M) (k : A -> B -> C -> D -> E -> F -> G -> H -> I -> J -> K -> L -> M -> Q) : Q := And.elim (λ a h => CJ h (k a)) h
theorem FH (h : A /\ B /\ C /\ D /\ E /\ F /\ G /\ H /\ I /\ J /\ K /\ L /\ M /\ N) (k : A -> B -> C -> D -> E -> F -> G -> H -> I -> J -> K -> L -> M -> N -> Q) : Q := And.elim (λ a h => Fy h (k a)) h
end
section
variable {A B C D E F G H : T1 -> Prop}
theorem br (h : ∃ x, A x) (k : ∀ x, A x -> Q) : Q := h.elim k
theorem uN (x : T1) (ah : A x) : ∃ x, A x := ⟨x, ah⟩
theorem aQ (h : ∃ x, A x /\ B x) (k : ∀ x, A x -> B x -> Q) : Q := h.elim λ x h => bK h (k x)
theorem cC (x : T1) (ah : A x) (bh : B x) : ∃ x, A x /\ B x := ⟨x, ah, bh⟩
theorem cj (h : ∃ x, A x /\ B x /\ C x) (k : ∀ x, A x -> B x -> C x -> Q) : Q := h.elim λ x h => bN h (k x)
theorem fk (x : T1) (ah : A x) (bh : B x) (ch : C x) : ∃ x, A x /\ B x /\ C x := ⟨x, ah, bh, ch⟩
theorem ke (h : ∃ x, A x /\ B x /\ C x /\ D x) (k : ∀ x, A x -> B x -> C x -> D x -> Q) : Q := h.elim λ x h => iH h (k x)
theorem oB (x : T1) (ah : A x) (bh : B x) (ch : C x) (dh : D x) : ∃ x, A x /\ B x /\ C x /\ D x := ⟨x, ah, bh, ch, dh⟩
theorem gJ (h : ∃ x, A x /\ B x /\ C x /\ D x /\ E x) (k : ∀ x, A x -> B x -> C x -> D x -> E x -> Q) : Q := h.elim λ x h => iW h (k x)
theorem ri (x : T1) (ah : A x) (bh : B x) (ch : C x) (dh : D x) (eh : E x) : ∃ x, A x /\ B x /\ C x /\ D x /\ E x := ⟨x, ah, bh, ch, dh, eh⟩
theorem uL (h : ∃ x, A x /\ B x /\ C x /\ D x /\ E x /\ F x) (k : ∀ x, A x -> B x -> C x -> D x -> E x -> F x -> Q) : Q := h.elim λ x h => qe h (k x)
theorem Db (x : T1) (ah : A x) (bh : B x) (ch : C x) (dh : D x) (eh : E x) (fh : F x) : ∃ x, A x /\ B x /\ C x /\ D x /\ E x /\ F x := ⟨x, ah, bh, ch, dh, eh, fh⟩
theorem EG (h : ∃ x, A x /\ B x /\ C x /\ D x /\ E x /\ F x /\ G x /\ H x) (k : ∀ x, A x -> B x -> C x -> D x -> E x -> F x -> G x -> H x -> Q) : Q := h.elim λ x h => zB h (k x)
theorem ET (x : T1) (ah : A x) (bh : B x) (ch : C x) (dh : D x) (eh : E x) (fh : F x) (gh : G x) (hh : H x) : ∃ x, A x /\ B x /\ C x /\ D x /\ E x /\ F x /\ G x /\ H x := ⟨x, ah, bh, ch, dh, eh, fh, gh, hh⟩
end
section
variable {A B C D E F G H : T1 -> T2 -> Prop}
theorem fj (h : ∃ x y, A x y) (k : ∀ x y, A x y -> Q) : Q := h.elim λ x h => h.elim (k x)
theorem sc (x : T1) (y : T2) (ah : A x y) : ∃ x y, A x y := ⟨x, y, ah⟩
theorem jn (h : ∃ x y, A x y /\ B x y) (k : ∀ x y, A x y -> B x y -> Q) : Q := h.elim λ x h => h.elim λ y h => bK h (k x y)
theorem lW (x : T1) (y : T2) (ah : A x y) (bh : B x y) : ∃ x y, A x y /\ B x y := ⟨x, y, ah, bh⟩
theorem gX (h : ∃ x y, A x y /\ B x y /\ C x y) (k : ∀ x y, A x y -> B x y -> C x y -> Q) : Q := h.elim λ x h => h.elim λ y h => bN h (k x y)
theorem kc (x : T1) (y : T2) (ah : A x y) (bh : B x y) (ch : C x y) : ∃ x y, A x y /\ B x y /\ C x y := ⟨x, y, ah, bh, ch⟩
theorem ed (h : ∃ x y, A x y /\ B x y /\ C x y /\ D x y) (k : ∀ x y, A x y -> B x y -> C x y -> D x y -> Q) : Q := h.elim λ x h => h.elim λ y h => iH h (k x y)
theorem qh (x : T1) (y : T2) (ah : A x y) (bh : B x y) (ch : C x y) (dh : D x y) : ∃ x y, A x y /\ B x y /\ C x y /\ D x y := ⟨x, y, ah, bh, ch, dh⟩
theorem GH (h : ∃ x y, A x y /\ B x y /\ C x y /\ D x y /\ E x y) (k : ∀ x y, A x y -> B x y -> C x y -> D x y -> E x y -> Q) : Q := h.elim λ x h => h.elim λ y h => iW h (k x y)
theorem Es (h : ∃ x y, A x y /\ B x y /\ C x y /\ D x y /\ E x y /\ F x y) (k : ∀ x y, A x y -> B x y -> C x y -> D x y -> E x y -> F x y -> Q) : Q := h.elim λ x h => h.elim λ y h => qe h (k x y)
theorem G6 (x : T1) (y : T2) (ah : A x y) (bh : B x y) (ch : C x y) (dh : D x y) (eh : E x y) (fh : F x y) : ∃ x y, A x y /\ B x y /\ C x y /\ D x y /\ E x y /\ F x y := ⟨x, y, ah, bh, ch, dh, eh, fh⟩
theorem GW (h : ∃ x y, A x y /\ B x y /\ C x y /\ D x y /\ E x y /\ F x y /\ G x y /\ H x y) (k : ∀ x y, A x y -> B x y -> C x y -> D x y -> E x y -> F x y -> G x y -> H x y -> Q) : Q := h.elim λ x h => h.elim λ y h => zB h (k x y)
theorem EM (x : T1) (y : T2) (ah : A x y) (bh : B x y) (ch : C x y) (dh : D x y) (eh : E x y) (fh : F x y) (gh : G x y) (hh : H x y) : ∃ x y, A x y /\ B x y /\ C x y /\ D x y /\ E x y /\ F x y /\ G x y /\ H x y := ⟨x, y, ah, bh, ch, dh, eh, fh, gh, hh⟩
end
section
variable {A B C D E F G H I J K : T1 -> T2 -> T3 -> Prop}
theorem Af (h : ∃ x y z, A x y z) (k : ∀ x y z, A x y z -> Q) : Q := h.elim λ x h => h.elim λ y h => h.elim (k x y)
theorem GE (x : T1) (y : T2) (z : T3) (ah : A x y z) : ∃ x y z, A x y z := ⟨x, y, z, ah⟩
theorem iV (h : ∃ x y z, A x y z /\ B x y z) (k : ∀ x y z, A x y z -> B x y z -> Q) : Q := h.elim λ x h => h.elim λ y h => h.elim λ z h => bK h (k x y z)
theorem z9 (x : T1) (y : T2) (z : T3) (ah : A x y z) (bh : B x y z) : ∃ x y z, A x y z /\ B x y z := ⟨x, y, z, ah, bh⟩
theorem Aa (h : ∃ x y z, A x y z /\ B x y z /\ C x y z) (k : ∀ x y z, A x y z -> B x y z -> C x y z -> Q) : Q := h.elim λ x h => h.elim λ y h => h.elim λ z h => bN h (k x y z)
theorem EU (x : T1) (y : T2) (z : T3) (ah : A x y z) (bh : B x y z) (ch : C x y z) : ∃ x y z, A x y z /\ B x y z /\ C x y z := ⟨x, y, z, ah, bh, ch⟩
theorem kz (h : ∃ x y z, A x y z /\ B x y z /\ C x y z /\ D x y z) (k : ∀ x y z, A x y z -> B x y z -> C x y z -> D x y z -> Q) : Q := h.elim λ x h => h.elim λ y h => h.elim λ z h => iH h (k x y z)
theorem qv (x : T1) (y : T2) (z : T3) (ah : A x y z) (bh : B x y z) (ch : C x y z) (dh : D x y z) : ∃ x y z, A x y z /\ B x y z /\ C x y z /\ D x y z := ⟨x, y, z, ah, bh, ch, dh⟩
theorem xe (h : ∃ x y z, A x y z /\ B x y z /\ C x y z /\ D x y z /\ E x y z /\ F x y z) (k : ∀ x y z, A x y z -> B x y z -> C x y z -> D x y z -> E x y z -> F x y z -> Q) : Q := h.elim λ x h => h.elim λ y h => h.elim λ z h => qe h (k x y z)
theorem yl (x : T1) (y : T2) (z : T3) (ah : A x y z) (bh : B x y z) (ch : C x y z) (dh : D x y z) (eh : E x y z) (fh : F x y z) : ∃ x y z, A x y z /\ B x y z /\ C x y z /\ D x y z /\ E x y z /\ F x y z := ⟨x, y, z, ah, bh, ch, dh, eh, fh⟩
theorem GQ (h : ∃ x y z, A x y z /\ B x y z /\ C x y z /\ D x y z /\ E x y z /\ F x y z /\ G x y z) (k : ∀ x y z, A x y z -> B x y z -> C x y z -> D x y z -> E x y z -> F x y z -> G x y z -> Q) : Q := h.elim λ x h => h.elim λ y h => h.elim λ z h => BH h (k x y z)
theorem ES (x : T1) (y : T2) (z : T3) (ah : A x y z) (bh : B x y z) (ch : C x y z) (dh : D x y z) (eh : E x y z) (fh : F x y z) (gh : G x y z) : ∃ x y z, A x y z /\ B x y z /\ C x y z /\ D x y z /\ E x y z /\ F x y z /\ G x y z := ⟨x, y, z, ah, bh, ch, dh, eh, fh, gh⟩
theorem Hj (h : ∃ x y z, A x y z /\ B x y z /\ C x y z /\ D x y z /\ E x y z /\ F x y z /\ G x y z /\ H x y z) (k : ∀ x y z, A x y z -> B x y z -> C x y z -> D x y z -> E x y z -> F x y z -> G x y z -> H x y z -> Q) : Q := h.elim λ x h => h.elim λ y h => h.elim λ z h => zB h (k x y z)
theorem Hb (x : T1) (y : T2) (z : T3) (ah : A x y z) (bh : B x y z) (ch : C x y z) (dh : D x y z) (eh : E x y z) (fh : F x y z) (gh : G x y z) (hh : H x y z) : ∃ x y z, A x y z /\ B x y z /\ C x y z /\ D x y z /\ E x y z /\ F x y z /\ G x y z /\ H x y z := ⟨x, y, z, ah, bh, ch, dh, eh, fh, gh, hh⟩
theorem ng (h : ∃ x y z, A x y z /\ B x y z /\ C x y z /\ D x y z /\ E x y z /\ F x y z /\ G x y z /\ H x y z /\ I x y z) (k : ∀ x y z, A x y z -> B x y z -> C x y z -> D x y z -> E x y z -> F x y z -> G x y z -> H x y z -> I x y z -> Q) : Q := h.elim λ x h => h.elim λ y h => h.elim λ z h => BB h (k x y z)
theorem uU (x : T1) (y : T2) (z : T3) (ah : A x y z) (bh : B x y z) (ch : C x y z) (dh : D x y z) (eh : E x y z) (fh : F x y z) (gh : G x y z) (hh : H x y z) (ih : I x y z) : ∃ x y z, A x y z /\ B x y z /\ C x y z /\ D x y z /\ E x y z /\ F x y z /\ G x y z /\ H x y z /\ I x y z := ⟨x, y, z, ah, bh, ch, dh, eh, fh, gh, hh, ih⟩
theorem FI (h : ∃ x y z, A x y z /\ B x y z /\ C x y z /\ D x y z /\ E x y z /\ F x y z /\ G x y z /\ H x y z /\ I x y z /\ J x y z /\ K x y z) (k : ∀ x y z, A x y z -> B x y z -> C x y z -> D x y z -> E x y z -> F x y z -> G x y z -> H x y z -> I x y z -> J x y z -> K x y z -> Q) : Q := h.elim λ x h => h.elim λ y h => h.elim λ z h => Co h (k x y z)
theorem F0 (x : T1) (y : T2) (z : T3) (ah : A x y z) (bh : B x y z) (ch : C x y z) (dh : D x y z) (eh : E x y z) (fh : F x y z) (gh : G x y z) (hh : H x y z) (ih : I x y z) (jh : J x y z) (kh : K x y z) : ∃ x y z, A x y z /\ B x y z /\ C x y z /\ D x y z /\ E x y z /\ F x y z /\ G x y z /\ H x y z /\ I x y z /\ J x y z /\ K x y z := ⟨x, y, z, ah, bh, ch, dh, eh, fh, gh, hh, ih, jh, kh⟩
end
section
variable {A B C D E F G H I : T1 -> T2 -> T3 -> T4 -> Prop}
theorem Ew (h : ∃ x y z w, A x y z w /\ B x y z w) (k : ∀ x y z w, A x y z w -> B x y z w -> Q) : Q := h.elim λ x h => h.elim λ y h => h.elim λ z h => h.elim λ w h => bK h (k x y z w)
theorem EO (x : T1) (y : T2) (z : T3) (w : T4) (ah : A x y z w) (bh : B x y z w) : ∃ x y z w, A x y z w /\ B x y z w := ⟨x, y, z, w, ah, bh⟩
theorem CH (h : ∃ x y z w, A x y z w /\ B x y z w /\ C x y z w) (k : ∀ x y z w, A x y z w -> B x y z w -> C x y z w -> Q) : Q := h.elim λ x h => h.elim λ y h => h.elim λ z h => h.elim λ w h => bN h (k x y z w)
theorem xf (h : ∃ x y z w, A x y z w /\ B x y z w /\ C x y z w /\ D x y z w) (k : ∀ x y z w, A x y z w -> B x y z w -> C x y z w -> D x y z w -> Q) : Q := h.elim λ x h => h.elim λ y h => h.elim λ z h => h.elim λ w h => iH h (k x y z w)
theorem nZ (x : T1) (y : T2) (z : T3) (w : T4) (ah : A x y z w) (bh : B x y z w) (ch : C x y z w) (dh : D x y z w) : ∃ x y z w, A x y z w /\ B x y z w /\ C x y z w /\ D x y z w := ⟨x, y, z, w, ah, bh, ch, dh⟩
theorem EF (h : ∃ x y z w, A x y z w /\ B x y z w /\ C x y z w /\ D x y z w /\ E x y z w) (k : ∀ x y z w, A x y z w -> B x y z w -> C x y z w -> D x y z w -> E x y z w -> Q) : Q := h.elim λ x h => h.elim λ y h => h.elim λ z h => h.elim λ w h => iW h (k x y z w)
theorem Ao (x : T1) (y : T2) (z : T3) (w : T4) (ah : A x y z w) (bh : B x y z w) (ch : C x y z w) (dh : D x y z w) (eh : E x y z w) : ∃ x y z w, A x y z w /\ B x y z w /\ C x y z w /\ D x y z w /\ E x y z w := ⟨x, y, z, w, ah, bh, ch, dh, eh⟩
theorem uH (h : ∃ x y z w, A x y z w /\ B x y z w /\ C x y z w /\ D x y z w /\ E x y z w /\ F x y z w /\ G x y z w) (k : ∀ x y z w, A x y z w -> B x y z w -> C x y z w -> D x y z w -> E x y z w -> F x y z w -> G x y z w -> Q) : Q := h.elim λ x h => h.elim λ y h => h.elim λ z h => h.elim λ w h => BH h (k x y z w)
theorem td (x : T1) (y : T2) (z : T3) (w : T4) (ah : A x y z w) (bh : B x y z w) (ch : C x y z w) (dh : D x y z w) (eh : E x y z w) (fh : F x y z w) (gh : G x y z w) : ∃ x y z w, A x y z w /\ B x y z w /\ C x y z w /\ D x y z w /\ E x y z w /\ F x y z w /\ G x y z w := ⟨x, y, z, w, ah, bh, ch, dh, eh, fh, gh⟩
theorem Er (h : ∃ x y z w, A x y z w /\ B x y z w /\ C x y z w /\ D x y z w /\ E x y z w /\ F x y z w /\ G x y z w /\ H x y z w /\ I x y z w) (k : ∀ x y z w, A x y z w -> B x y z w -> C x y z w -> D x y z w -> E x y z w -> F x y z w -> G x y z w -> H x y z w -> I x y z w -> Q) : Q := h.elim λ x h => h.elim λ y h => h.elim λ z h => h.elim λ w h => BB h (k x y z w)
theorem Et (x : T1) (y : T2) (z : T3) (w : T4) (ah : A x y z w) (bh : B x y z w) (ch : C x y z w) (dh : D x y z w) (eh : E x y z w) (fh : F x y z w) (gh : G x y z w) (hh : H x y z w) (ih : I x y z w) : ∃ x y z w, A x y z w /\ B x y z w /\ C x y z w /\ D x y z w /\ E x y z w /\ F x y z w /\ G x y z w /\ H x y z w /\ I x y z w := ⟨x, y, z, w, ah, bh, ch, dh, eh, fh, gh, hh, ih⟩
end
section
variable {A B C D E F : T1 -> T2 -> T3 -> T4 -> T5 -> Prop}
theorem Gw (x : T1) (y : T2) (z : T3) (w : T4) (u : T5) (ah : A x y z w u) (bh : B x y z w u) : ∃ x y z w u, A x y z w u /\ B x y z w u := ⟨x, y, z, w, u, ah, bh⟩
theorem zy (h : ∃ x y z w u, A x y z w u /\ B x y z w u /\ C x y z w u /\ D x y z w u /\ E x y z w u) (k : ∀ x y z w u, A x y z w u -> B x y z w u -> C x y z w u -> D x y z w u -> E x y z w u -> Q) : Q := h.elim λ x h => h.elim λ y h => h.elim λ z h => h.elim λ w h => h.elim λ u h => iW h (k x y z w u)
theorem BU (x : T1) (y : T2) (z : T3) (w : T4) (u : T5) (ah : A x y z w u) (bh : B x y z w u) (ch : C x y z w u) (dh : D x y z w u) (eh : E x y z w u) : ∃ x y z w u, A x y z w u /\ B x y z w u /\ C x y z w u /\ D x y z w u /\ E x y z w u := ⟨x, y, z, w, u, ah, bh, ch, dh, eh⟩
theorem Hn (h : ∃ x y z w u, A x y z w u /\ B x y z w u /\ C x y z w u /\ D x y z w u /\ E x y z w u /\ F x y z w u) (k : ∀ x y z w u, A x y z w u -> B x y z w u -> C x y z w u -> D x y z w u -> E x y z w u -> F x y z w u -> Q) : Q := h.elim λ x h => h.elim λ y h => h.elim λ z h => h.elim λ w h => h.elim λ u h => qe h (k x y z w u)
theorem EC (x : T1) (y : T2) (z : T3) (w : T4) (u : T5) (ah : A x y z w u) (bh : B x y z w u) (ch : C x y z w u) (dh : D x y z w u) (eh : E x y z w u) (fh : F x y z w u) : ∃ x y z w u, A x y z w u /\ B x y z w u /\ C x y z w u /\ D x y z w u /\ E x y z w u /\ F x y z w u := ⟨x, y, z, w, u, ah, bh, ch, dh, eh, fh⟩
end
section
variable {A B C D E F G H I J K L : T1 -> T2 -> T3 -> T4 -> T5 -> T6 -> Prop}
theorem He (x : T1) (y : T2) (z : T3) (w : T4) (u : T5) (v : T6) (ah : A x y z w u v) (bh : B x y z w u v) : ∃ x y z w u v, A x y z w u v /\ B x y z w u v := ⟨x, y, z, w, u, v, ah, bh⟩
theorem Bz (h : ∃ x y z w u v, A x y z w u v /\ B x y z w u v /\ C x y z w u v /\ D x y z w u v /\ E x y z w u v /\ F x y z w u v) (k : ∀ x y z w u v, A x y z w u v -> B x y z w u v -> C x y z w u v -> D x y z w u v -> E x y z w u v -> F x y z w u v -> Q) : Q := h.elim λ x h => h.elim λ y h => h.elim λ z h => h.elim λ w h => h.elim λ u h => h.elim λ v h => qe h (k x y z w u v)
theorem Aq (x : T1) (y : T2) (z : T3) (w : T4) (u : T5) (v : T6) (ah : A x y z w u v) (bh : B x y z w u v) (ch : C x y z w u v) (dh : D x y z w u v) (eh : E x y z w u v) (fh : F x y z w u v) : ∃ x y z w u v, A x y z w u v /\ B x y z w u v /\ C x y z w u v /\ D x y z w u v /\ E x y z w u v /\ F x y z w u v := ⟨x, y, z, w, u, v, ah, bh, ch, dh, eh, fh⟩
theorem FK (h : ∃ x y z w u v, A x y z w u v /\ B x y z w u v /\ C x y z w u v /\ D x y z w u v /\ E x y z w u v /\ F x y z w u v /\ G x y z w u v /\ H x y z w u v /\ I x y z w u v /\ J x y z w u v /\ K x y z w u v /\ L x y z w u v) (k : ∀ x y z w u v, A x y z w u v -> B x y z w u v -> C x y z w u v -> D x y z w u v -> E x y z w u v -> F x y z w u v -> G x y z w u v -> H x y z w u v -> I x y z w u v -> J x y z w u v -> K x y z w u v -> L x y z w u v -> Q) : Q := h.elim λ x h => h.elim λ y h => h.elim λ z h => h.elim λ w h => h.elim λ u h => h.elim λ v h => CJ h (k x y z w u v)
end
section
variable {A B C D E F G H I J K L M N : T1 -> T2 -> T3 -> T4 -> T5 -> T6 -> T7 -> Prop}
theorem GM (h : ∃ x y z w u v t, A x y z w u v t) (k : ∀ x y z w u v t, A x y z w u v t -> Q) : Q := h.elim λ x h => h.elim λ y h => h.elim λ z h => h.elim λ w h => h.elim λ u h => h.elim λ v h => h.elim (k x y z w u v)
theorem GS (x : T1) (y : T2) (z : T3) (w : T4) (u : T5) (v : T6) (t : T7) (ah : A x y z w u v t) : ∃ x y z w u v t, A x y z w u v t := ⟨x, y, z, w, u, v, t, ah⟩
theorem Fh (h : ∃ x y z w u v t, A x y z w u v t /\ B x y z w u v t /\ C x y z w u v t /\ D x y z w u v t /\ E x y z w u v t /\ F x y z w u v t /\ G x y z w u v t /\ H x y z w u v t /\ I x y z w u v t /\ J x y z w u v t /\ K x y z w u v t /\ L x y z w u v t /\ M x y z w u v t /\ N x y z w u v t) (k : ∀ x y z w u v t, A x y z w u v t -> B x y z w u v t -> C x y z w u v t -> D x y z w u v t -> E x y z w u v t -> F x y z w u v t -> G x y z w u v t -> H x y z w u v t -> I x y z w u v t -> J x y z w u v t -> K x y z w u v t -> L x y z w u v t -> M x y z w u v t -> N x y z w u v t -> Q) : Q := h.elim λ x h => h.elim λ y h => h.elim λ z h => h.elim λ w h => h.elim λ u h => h.elim λ v h => h.elim λ t h => FH h (k x y z w u v t)
end
theorem ej {α : Type} {a b : α} (h : some a = some b) : a = b := Option.some.inj h
theorem gx {α β : Type} {a c : α} {b d : β} (h : some (a, b) = some (c, d)) (k : a = c -> b = d -> Q) : Q := Prod.mk.inj (Option.some.inj h) |>.elim k
theorem yD {α β γ : Type} {a d : α} {b e : β} {c f : γ} (h : some ((a, b), c) = some ((d, e), f)) (k : a = d -> b = e -> c = f -> Q) : Q := gx h λ q r => (Prod.mk.inj q).elim λ s t => k s t r
theorem bG {α : Type} {a : α} (h : none = some a) : Q := nomatch h
theorem zk {α β : Type} {P : α -> β -> Prop} : ∃ I : α -> β -> Prop, (∀ k s, P k s -> I k s) /\ ∀ k s, I k s -> P k s := ⟨P, λ _ _ h => h, λ _ _ h => h⟩
theorem qQ {p : Prop} (h : p) : p := h
end
end
section
open PySem PySem.W PyProof.Rows PySem.Calls
section
inductive PV where
 | none | bool (b : Bool) | int (k : Int) | str (s : Str) | ref (i : Nat) | tup (vs : List PV) | rng (a b : Int) | scr (ks : List Int)
 deriving Inhabited
inductive ee where
 | inst (c : Nat) (fs : List PV)
 | list (vs : List PV)
 | dict (es : List (Int × PV))
 | fdict (es : List (Int × PV))
 | flist (vs : List PV)
structure St where
 objs : Nat -> ee
 next : Nat
noncomputable def St.set (Z : St) (i : Nat) (o : ee) : St := ⟨λ j => if j = i then o else Z.objs j, Z.next⟩
noncomputable def St.push (Z : St) (o : ee) : St := ⟨λ j => if j = Z.next then o else Z.objs j, Z.next + 1⟩
structure Gh where
 ad : Nat -> Addr × Addr
 T : Addr -> Option Obj
 fz : Nat -> Bool
noncomputable def Gc (vals : List Value) : Obj := { cls := .type "tuple", data := .seq vals.toArray }
noncomputable def D3 (a b : Int) (t u v : Tok) : Obj := { cls := .type "range", data := .fields #[.int a t, .int b u, .int 1 v] }
def Ho (o : Obj) : Prop := (∃ vals, o = Gc vals) \/ (∃ a b t u v, o = D3 a b t u v) \/ (o.cls = .type "list" /\ ∃ xs n, o.data = .seq xs n)
inductive VR (W : Gh) (n : Nat) : PV -> Value -> Prop
 | none : VR W n .none .none
 | bool (b) : VR W n (.bool b) (.bool b)
 | int (k t) : VR W n (.int k) (.int k t)
 | str (x t) : VR W n (.str x) (.str x t)
 | ref (i) : i < n -> VR W n (.ref i) (.ref (W.ad i).1)
 | tup (vs : List PV) (vals : List Value) (a : Addr) : W.T a = some (Gc vals) -> vs.length = vals.length -> (∀ (k : Nat) (pv : PV) (v : Value), vs[k]? = some pv -> vals[k]? = some v -> VR W n pv v) -> VR W n (.tup vs) (.ref a)
 | rng (a b : Int) (t u v : Tok) (r : Addr) : W.T r = some (D3 a b t u v) -> VR W n (.rng a b) (.ref r)
 | scr (ks : List Int) (o : Obj) (vals : List Value) (m : Nat) (r : Addr) : W.T r = some o -> o.cls = .type "list" -> o.data = .seq vals.toArray m -> IntsAre vals ks -> VR W n (.scr ks) (.ref r)
def fy (W : Gh) (n : Nat) (vs : List PV) (vals : List Value) : Prop := vs.length = vals.length /\ ∀ (k : Nat) (pv : PV) (v : Value), vs[k]? = some pv -> vals[k]? = some v -> VR W n pv v
theorem fy.nil {W n} : fy W n [] [] := ⟨rfl, λ k pv v h => by simp at h⟩
theorem fy.cons {W n p v vs vals} (h : VR W n p v) (t : fy W n vs vals) : fy W n (p :: vs) (v :: vals) :=
 ⟨by simp [t.1], λ k pv v' h1 h2 => by
  cases k with
  | zero => simp at h1 h2; subst h1 h2; exact h
  | succ k => simp at h1 h2; exact t.2 k pv v' h1 h2⟩
theorem fy.get {W n vs vals} (t : fy W n vs vals) {k : Nat} {pv : PV} (h : vs[k]? = some pv) : ∃ v, vals[k]? = some v /\ VR W n pv v := by
 have hk : k < vs.length := by
  rcases Nat.lt_or_ge k vs.length with q | q
  ·exact q
  ·rw [List.getElem?_eq_none q] at h; exact bG h
 have hk' : k < vals.length := t.1 ▸ hk
 exact cC (vals[k]) (by simp [hk']) (t.2 k pv _ h (by simp [hk']))
def qT (W : Gh) (n : Nat) (b : Addr) : Prop := ∃ i, i < n /\ W.fz i = false /\ (b = (W.ad i).1 \/ b = (W.ad i).2)
def Ac (W : Gh) (n : Nat) (b : Addr) : Prop := ∃ i, i < n /\ (b = (W.ad i).1 \/ b = (W.ad i).2)
theorem qT.all {W : Gh} {n : Nat} {b : Addr} (h : qT W n b) : Ac W n b := (cj h λ i hi _ hb => ⟨i, hi, hb⟩)
structure eP where
 prog : Program
 w : World
 K : Frag
 h₀ : Heap
 mg : Str -> Option Value
 mb : Str -> Option Value
 pp : Program
 loose : List Str
 X : K.In h₀
 T : TopRead pp loose mg mb h₀
 flds : Nat -> List Str
 cadr : Nat -> Addr
 inj : ∀ (c k k' : Nat) (x : Str), (flds c)[k]? = some x -> (flds c)[k']? = some x -> k = k'
variable (S : eP)
def iU (W : Gh) (n : Nat) (h : Heap) (a : Addr × Addr) : ee -> Prop
 | .inst C fs => a.1 ≠ a.2 /\ h.get? a.1 = some (instObj (S.cadr C) a.2) /\ ∃ m, h.Ns a.2 m /\
   (∀ (k : Nat) (x : Str) (pv : PV), (S.flds C)[k]? = some x -> fs[k]? = some pv -> ∃ v, m x = some v /\ VR W n pv v) /\
   (∀ x : Str, (∀ k, k < fs.length -> (S.flds C)[k]? ≠ some x) -> m x = none) /\ h.DictLe a.2 fs.length /\ fs.length <= 100
 | .list vs => a.2 = a.1 /\ ∃ vals, h.PlainList a.1 vals /\ fy W n vs vals.toList /\ vs.length <= 1000
 | .flist vs => a.2 = a.1 /\ ∃ vals, h.PlainList a.1 vals /\ fy W n vs vals.toList /\ vs.length <= 1000
 | .dict es => a.2 = a.1 /\ ∃ kvs, h.DictOf (intKind S.prog S.w) a.1 kvs /\ es.map (·.1) = kvs.map (·.1) /\ fy W n (es.map (·.2)) (kvs.map (·.2)) /\ es.length <= 1000
 | .fdict es => a.2 = a.1 /\ ∃ kvs, h.DictOf (intKind S.prog S.w) a.1 kvs /\ es.map (·.1) = kvs.map (·.1) /\ fy W n (es.map (·.2)) (kvs.map (·.2)) /\ es.length <= 1000
structure dA (W : Gh) (Z : St) (h : Heap) : Prop where
 base : ∀ b o, S.h₀.get? b = some o -> h.get? b = some o
 obj : ∀ i, i < Z.next -> iU S W Z.next h (W.ad i) (Z.objs i)
 apart : ∀ i j, i < Z.next -> j < Z.next -> i ≠ j -> (W.ad i).1 ≠ (W.ad j).1 /\ (W.ad i).1 ≠ (W.ad j).2 /\ (W.ad i).2 ≠ (W.ad j).2
 fresh : ∀ i, i < Z.next -> S.h₀.get? (W.ad i).1 = none /\ S.h₀.get? (W.ad i).2 = none
 above : ∀ i, i < Z.next -> mainGlobals < (W.ad i).1
 frz : ∀ i, i < Z.next -> W.fz i = true -> (∃ es, Z.objs i = .fdict es) \/ ∃ vs, Z.objs i = .flist vs
 tup : ∀ a o, W.T a = some o -> h.get? a = some o /\ ¬ qT W Z.next a /\ True /\ Ho o
structure bE (X : Addr -> Prop) (W : Gh) (n : Nat) (h : Heap) (W' : Gh) (n' : Nat) (h' : Heap) : Prop where
 nx : n <= n'
 ad : ∀ i, i < n -> W'.ad i = W.ad i
 T : ∀ a v, W.T a = some v -> W'.T a = some v
 fz : ∀ i, i < n -> W.fz i = true -> W'.fz i = true
 ext : ∀ b o, h.get? b = some o -> ¬ qT W n b -> ¬ X b -> h'.get? b = some o
 dom : ∀ b o, h.get? b = some o -> ∃ o', h'.get? b = some o'
 new : ∀ i, n <= i -> i < n' -> h.get? (W'.ad i).1 = none /\ h.get? (W'.ad i).2 = none
 Tn : ∀ a, W.T a = none -> (∃ o, h.get? a = some o) -> W'.T a = none
def lO : Addr -> Prop := λ _ => False
theorem VR.mono {W W' : Gh} {n n' : Nat} (hn : n <= n') (ha : ∀ i, i < n -> W'.ad i = W.ad i) (hT : ∀ a v, W.T a = some v -> W'.T a = some v) {p : PV} {v : Value} (h : VR W n p v) : VR W' n' p v := by
 induction h with
 | none => exact .none
 | bool b => exact .bool b
 | int k t => exact .int k t
 | str x t => exact .str x t
 | ref i hi => rw [<- ha i hi]; exact .ref i (Nat.lt_of_lt_of_le hi hn)
 | tup vs vals a h1 h2 _ ih => exact .tup vs vals a (hT _ _ h1) h2 ih
 | rng a b t u v r h1 => exact .rng a b t u v r (hT _ _ h1)
 | scr ks o vals m r h1 h2 h3 h4 => exact .scr ks o vals m r (hT _ _ h1) h2 h3 h4
theorem fy.mono {W W' : Gh} {n n' : Nat} (hn : n <= n') (ha : ∀ i, i < n -> W'.ad i = W.ad i) (hT : ∀ a v, W.T a = some v -> W'.T a = some v) {p : List PV} {v : List Value} (h : fy W n p v) : fy W' n' p v :=
 ⟨h.1, λ k pv v h1 h2 => (h.2 k pv v h1 h2).mono hn ha hT⟩
section
variable {X : Addr -> Prop} {W W' W'' : Gh} {n n' n'' : Nat} {h h' h'' : Heap}
theorem bE.vr (t : bE X W n h W' n' h') {p v} (x : VR W n p v) : VR W' n' p v := x.mono t.nx t.ad t.T
theorem bE.vrs (t : bE X W n h W' n' h') {p v} (x : fy W n p v) : fy W' n' p v := x.mono t.nx t.ad t.T
theorem bE.refl : bE X W n h W n h := ⟨Nat.le_refl _, λ _ _ => rfl, λ _ _ e => e, λ _ _ e => e, λ _ _ e _ _ => e, λ _ o e => ⟨o, e⟩, λ _ h1 h2 => absurd h1 (Nat.not_le.mpr h2), λ _ e _ => e⟩
theorem bE.own_back (t : bE X W n h W' n' h') {b : Addr} {o : Obj} (e : h.get? b = some o) (x : qT W' n' b) : qT W n b := by
 refine cj x λ i hi hf hb => ?_
 rcases Nat.lt_or_ge i n with q | q
 ·rw [t.ad i q] at hb
  refine fk i q ?_ hb
  cases z : W.fz i with
  | false => rfl
  | true => rw [t.fz i q z] at hf; cases hf
 ·refine bK (t.new i q hi) λ a1 a2 => ?_
  rcases hb with rfl | rfl
  ·rw [e] at a1; cases a1
  ·rw [e] at a2; cases a2
theorem bE.all_back (t : bE X W n h W' n' h') {b : Addr} {o : Obj} (e : h.get? b = some o) (x : Ac W' n' b) : Ac W n b := by
 refine aQ x λ i hi hb => ?_
 rcases Nat.lt_or_ge i n with q | q
 ·rw [t.ad i q] at hb; exact ⟨i, q, hb⟩
 ·refine bK (t.new i q hi) λ a1 a2 => ?_
  rcases hb with rfl | rfl
  ·rw [e] at a1; cases a1
  ·rw [e] at a2; cases a2
theorem bE.comp (t : bE X W n h W' n' h') (u : bE X W' n' h' W'' n'' h'') : bE X W n h W'' n'' h'' where
 nx := Nat.le_trans t.nx u.nx
 ad i hi := (u.ad i (Nat.lt_of_lt_of_le hi t.nx)).trans (t.ad i hi)
 T a v e := u.T a v (t.T a v e)
 fz i hi e := u.fz i (Nat.lt_of_lt_of_le hi t.nx) (t.fz i hi e)
 ext b o e n1 n2 := u.ext b o (t.ext b o e n1 n2) (λ q => n1 (t.own_back e q)) n2
 dom b o e := (br (t.dom b o e) λ _ e' => u.dom b _ e')
 Tn a e h := let ⟨o, e'⟩ := h; (br (t.dom a o e') λ o' e'' => u.Tn a (t.Tn a e ⟨o, e'⟩) ⟨o', e''⟩)
 new i h1 h2 := by
  rcases Nat.lt_or_ge i n' with q | q
  ·rw [u.ad i q]; exact t.new i h1 q
  ·refine bK (u.new i q h2) λ a b => ?_
   refine ⟨?_, ?_⟩
   ·cases e : h.get? (W''.ad i).1 with
    | none => rfl
    | some o => refine br (t.dom _ _ e) λ o' e' => ?_; rw [e'] at a; cases a
   ·cases e : h.get? (W''.ad i).2 with
    | none => rfl
    | some o => refine br (t.dom _ _ e) λ o' e' => ?_; rw [e'] at b; cases b
theorem bE.weaken {Y : Addr -> Prop} (t : bE X W n h W' n' h') (hY : ∀ b, X b -> Y b) : bE Y W n h W' n' h' :=
 ⟨t.nx, t.ad, t.T, t.fz, λ b o e n1 n2 => t.ext b o e n1 λ z => n2 (hY b z), t.dom, t.new, t.Tn⟩
end
section
variable {S}
theorem iU.mono {W W' : Gh} {n n' : Nat} {h h' : Heap} {a : Addr × Addr} {o : ee} (x : iU S W n h a o) (hn : n <= n') (ha : ∀ i, i < n -> W'.ad i = W.ad i) (hT : ∀ a v, W.T a = some v -> W'.T a = some v)
  (k1 : ∀ o, h.get? a.1 = some o -> h'.get? a.1 = some o) (k2 : ∀ o, h.get? a.2 = some o -> h'.get? a.2 = some o) : iU S W' n' h' a o := by
 cases o with
 | inst C fs =>
  obtain ⟨h1, h2, m, hm, hf, hg, hz, hl⟩ := x
  refine iV (id hm) λ o _ _ ho _ => ?_
  exact ⟨h1, k1 _ h2, m, hm.at' k2, λ k x pv e1 e2 => (aQ (hf k x pv e1 e2) λ v e hv => ⟨v, e, hv.mono hn ha hT⟩), hg, hz.of_same ho (k2 _ ho), hl⟩
 | list vs =>
  obtain ⟨h0, vals, h1, h2, h3⟩ := x
  exact ⟨h0, vals, h1.at k1, h2.mono hn ha hT, h3⟩
 | flist vs =>
  obtain ⟨h0, vals, h1, h2, h3⟩ := x
  exact ⟨h0, vals, h1.at k1, h2.mono hn ha hT, h3⟩
 | dict es =>
  obtain ⟨h0, kvs, h1, h2, h3, h4⟩ := x
  exact ⟨h0, kvs, h1.at k1, h2, h3.mono hn ha hT, h4⟩
 | fdict es =>
  obtain ⟨h0, kvs, h1, h2, h3, h4⟩ := x
  exact ⟨h0, kvs, h1.at k1, h2, h3.mono hn ha hT, h4⟩
theorem iU.some1 {W : Gh} {n : Nat} {h : Heap} {a : Addr × Addr} {o : ee} (x : iU S W n h a o) : ∃ o, h.get? a.1 = some o := by
 cases o with
 | inst C fs => exact ⟨_, x.2.1⟩
 | list vs => obtain ⟨_, _, ⟨_, e⟩, _⟩ := x; exact ⟨_, e⟩
 | flist vs => obtain ⟨_, _, ⟨_, e⟩, _⟩ := x; exact ⟨_, e⟩
 | dict es => obtain ⟨_, _, ⟨o, _, _, e, _⟩, _⟩ := x; exact ⟨_, e⟩
 | fdict es => obtain ⟨_, _, ⟨o, _, _, e, _⟩, _⟩ := x; exact ⟨_, e⟩
theorem iU.some2 {W : Gh} {n : Nat} {h : Heap} {a : Addr × Addr} {o : ee} (x : iU S W n h a o) : ∃ o, h.get? a.2 = some o := by
 cases o with
 | inst C fs => obtain ⟨_, _, _, ⟨o, _, _, e, _⟩, _⟩ := x; exact ⟨_, e⟩
 | list vs => obtain ⟨q, _, ⟨_, e⟩, _⟩ := x; exact ⟨_, q ▸ e⟩
 | flist vs => obtain ⟨q, _, ⟨_, e⟩, _⟩ := x; exact ⟨_, q ▸ e⟩
 | dict es => obtain ⟨q, _, ⟨o, _, _, e, _⟩, _⟩ := x; exact ⟨_, q ▸ e⟩
 | fdict es => obtain ⟨q, _, ⟨o, _, _, e, _⟩, _⟩ := x; exact ⟨_, q ▸ e⟩
variable {W : Gh} {Z : St} {h h' : Heap}
theorem dA.ownSome (R : dA S W Z h) {b : Addr} (x : qT W Z.next b) : ∃ o, h.get? b = some o := by
 obtain ⟨i, hi, _, rfl | rfl⟩ := x
 ·exact (R.obj i hi).some1
 ·exact (R.obj i hi).some2
theorem dA.allSome (R : dA S W Z h) {b : Addr} (x : Ac W Z.next b) : ∃ o, h.get? b = some o := by
 obtain ⟨i, hi, rfl | rfl⟩ := x
 ·exact (R.obj i hi).some1
 ·exact (R.obj i hi).some2
theorem dA.keep (R : dA S W Z h) (hk : ∀ b o, h.get? b = some o -> h'.get? b = some o) : dA S W Z h' /\ bE lO W Z.next h W Z.next h' :=
 ⟨⟨λ b o e => hk b o (R.base b o e), λ i hi => (R.obj i hi).mono (Nat.le_refl _) (λ _ _ => rfl) (λ _ _ e => e) (λ o e => hk _ o e) (λ o e => hk _ o e), R.apart, R.fresh, R.above, R.frz,
  λ a vs e => ⟨hk _ _ (R.tup a vs e).1, (R.tup a vs e).2⟩⟩,
  ⟨Nat.le_refl _, λ _ _ => rfl, λ _ _ e => e, λ _ _ e => e, λ b o e _ _ => hk b o e, λ b o e => ⟨o, hk b o e⟩, λ i h1 h2 => absurd h1 (Nat.not_le.mpr h2), λ _ e _ => e⟩⟩
theorem IsTup.at' {h h' : Heap} {a items} (x : IsTup h a items) (hk : ∀ o, h.get? a = some o -> h'.get? a = some o) : IsTup h' a items := (aQ x λ o ho r => ⟨o, hk o ho, r⟩)
theorem dA.upd (R : dA S W Z h) {i : Nat} (hi : i < Z.next) (hfz : W.fz i = false) {o' : ee} {a : Addr} (ha : a = (W.ad i).1 \/ a = (W.ad i).2)
  (hs : ∀ b o, b ≠ a -> h.get? b = some o -> h'.get? b = some o) (hd : ∃ o, h'.get? a = some o) (ho : iU S W Z.next h' (W.ad i) o') :
  dA S W (Z.set i o') h' /\ bE lO W Z.next h W Z.next h' := by
 have hown : qT W Z.next a := ⟨i, hi, hfz, ha⟩
 have hbase : S.h₀.get? a = none := by rcases ha with rfl | rfl; exact (R.fresh i hi).1; exact (R.fresh i hi).2
 refine ⟨⟨λ b o e => hs b o (λ q => by rw [<- q, e] at hbase; cases hbase) (R.base b o e), λ j hj => ?_, R.apart, R.fresh, R.above, λ j hj hf => ?_, λ b vs e => ?_⟩,
  ⟨Nat.le_refl _, λ _ _ => rfl, λ _ _ e => e, λ _ _ e => e, λ b o e n1 _ => hs b o (λ q => n1 (q ▸ hown)) e, λ b o e => ?_, λ i h1 h2 => absurd h1 (Nat.not_le.mpr h2), λ _ e _ => e⟩⟩
 ·show iU S W Z.next h' (W.ad j) (if j = i then o' else Z.objs j)
  by_cases q : j = i
  ·subst q; rw [if_pos rfl]; exact ho
  ·rw [if_neg q]
   have P := R.apart j i hj hi q
   have P' := R.apart i j hi hj (Ne.symm q)
   refine (R.obj j hj).mono (Nat.le_refl _) (λ _ _ => rfl) (λ _ _ e => e) (λ o e => hs _ o (λ z => ?_) e) (λ o e => hs _ o (λ z => ?_) e)
   ·rcases ha with rfl | rfl
    ·exact P.1 z
    ·exact P.2.1 z
   ·rcases ha with rfl | rfl
    ·exact P'.2.1 z.symm
    ·exact P.2.2 z
 ·show (∃ es, (if j = i then o' else Z.objs j) = _) \/ ∃ vs, (if j = i then o' else Z.objs j) = _
  rw [if_neg (λ q => by rw [q, hfz] at hf; cases hf)]; exact R.frz j hj hf
 ·have := R.tup b vs e
  exact ⟨hs b _ (λ q => this.2.1 (q ▸ hown)) this.1, this.2⟩
 ·by_cases q : b = a
  ·rw [q]; exact hd
  ·exact ⟨o, hs b o q e⟩
noncomputable def Gh.add (W : Gh) (n : Nat) (p : Addr × Addr) : Gh := { W with ad := λ j => if j = n then p else W.ad j, fz := λ j => if j = n then false else W.fz j }
theorem dA.alloc (R : dA S W Z h) (hk : ∀ b o, h.get? b = some o -> h'.get? b = some o) {p : Addr × Addr} {o' : ee} (z1 : h.objs.size <= p.1) (z2 : h.objs.size <= p.2)
  (ho : iU S (W.add Z.next p) (Z.next + 1) h' p o') :
  dA S (W.add Z.next p) (Z.push o') h' /\ bE lO W Z.next h (W.add Z.next p) (Z.next + 1) h' := by
 have n1 : h.get? p.1 = none := Heap.get?_none_of_le z1
 have n2 : h.get? p.2 = none := Heap.get?_none_of_le z2
 have hbig : mainGlobals < h.objs.size := (S.T.g.keeps R.base).lt
 have had : ∀ j, j < Z.next -> (W.add Z.next p).ad j = W.ad j := λ j hj => if_neg (Nat.ne_of_lt hj)
 have hfz : ∀ j, j < Z.next -> (W.add Z.next p).fz j = W.fz j := λ j hj => if_neg (Nat.ne_of_lt hj)
 have hown : ∀ b, qT (W.add Z.next p) (Z.next + 1) b -> qT W Z.next b \/ b = p.1 \/ b = p.2 := by
  intro b qq1; refine cj qq1 λ j hj hf hb => ?_
  by_cases q : j = Z.next
  ·subst q
   have e : (W.add Z.next p).ad Z.next = p := if_pos rfl
   rw [e] at hb; exact .inr hb
  ·have : j < Z.next := by exact Nat.lt_of_le_of_ne (Nat.le_of_lt_succ (by assumption)) (by assumption)
   rw [had j this] at hb
   rw [hfz j this] at hf
   exact .inl ⟨j, this, hf, hb⟩
 have ne : ∀ b o, h.get? b = some o -> b ≠ p.1 /\ b ≠ p.2 := λ b o e => ⟨(λ q => by rw [q, n1] at e; exact bG e), (λ q => by rw [q, n2] at e; exact bG e)⟩
 refine ⟨⟨λ b o e => hk b o (R.base b o e), λ j hj => ?_, λ i j hi hj hij => ?_, λ j hj => ?_, λ j hj => ?_, λ j hj hf => ?_, λ a vs e => ?_⟩,
  ⟨Nat.le_succ _, had, λ _ _ e => e, λ j hj e => (hfz j hj).trans e, λ b o e _ _ => hk b o e, λ b o e => ⟨o, hk b o e⟩, λ i h1 h2 => ?_, λ _ e _ => e⟩⟩
 ·show iU S _ (Z.next + 1) h' _ (if j = Z.next then o' else Z.objs j)
  by_cases q : j = Z.next
  ·subst q
   have e : (W.add Z.next p).ad Z.next = p := if_pos rfl
   rw [if_pos rfl, e]; exact ho
  ·have hj' : j < Z.next := by have : j < Z.next + 1 := hj; exact Nat.lt_of_le_of_ne (Nat.le_of_lt_succ (by assumption)) (by assumption)
   rw [if_neg q, had j hj']
   exact (R.obj j hj').mono (Nat.le_succ _) had (λ _ _ e => e) (λ o e => hk _ o e) (λ o e => hk _ o e)
 ·have hi' : i < Z.next + 1 := hi
  have hj' : j < Z.next + 1 := hj
  have old : ∀ k, k < Z.next -> ((W.ad k).1 ≠ p.1 /\ (W.ad k).1 ≠ p.2) /\ ((W.ad k).2 ≠ p.1 /\ (W.ad k).2 ≠ p.2) := λ k hk' =>
   ⟨(br ((R.obj k hk').some1) λ o e => ne _ o e), (br ((R.obj k hk').some2) λ o e => ne _ o e)⟩
  have e : (W.add Z.next p).ad Z.next = p := if_pos rfl
  by_cases q1 : i = Z.next
  ·by_cases q2 : j = Z.next
   ·exact absurd (q1.trans q2.symm) hij
   ·have hj2 : j < Z.next := by exact Nat.lt_of_le_of_ne (Nat.le_of_lt_succ (by assumption)) (by assumption)
    rw [q1, e, had j hj2]
    have := old j hj2
    exact ⟨this.1.1.symm, this.2.1.symm, this.2.2.symm⟩
  ·have hi2 : i < Z.next := by exact Nat.lt_of_le_of_ne (Nat.le_of_lt_succ (by assumption)) (by assumption)
   by_cases q2 : j = Z.next
   ·rw [q2, e, had i hi2]
    have := old i hi2
    exact ⟨this.1.1, this.1.2, this.2.2⟩
   ·have hj2 : j < Z.next := by exact Nat.lt_of_le_of_ne (Nat.le_of_lt_succ (by assumption)) (by assumption)
    rw [had i hi2, had j hj2]
    exact R.apart i j hi2 hj2 hij
 ·have nb : ∀ b, h.get? b = none -> S.h₀.get? b = none := λ b e => by
   cases q : S.h₀.get? b with
   | none => rfl
   | some o => rw [R.base b o q] at e; cases e
  by_cases q : j = Z.next
  ·subst q
   have e : (W.add Z.next p).ad Z.next = p := if_pos rfl
   rw [e]; exact ⟨nb _ n1, nb _ n2⟩
  ·have hj' : j < Z.next := by have : j < Z.next + 1 := hj; exact Nat.lt_of_le_of_ne (Nat.le_of_lt_succ (by assumption)) (by assumption)
   rw [had j hj']; exact R.fresh j hj'
 ·by_cases q : j = Z.next
  ·subst q
   have e : (W.add Z.next p).ad Z.next = p := if_pos rfl
   rw [e]; exact Nat.lt_of_lt_of_le hbig z1
  ·have hj' : j < Z.next := by have : j < Z.next + 1 := hj; exact Nat.lt_of_le_of_ne (Nat.le_of_lt_succ (by assumption)) (by assumption)
   rw [had j hj']; exact R.above j hj'
 ·by_cases q : j = Z.next
  ·subst q
   have e : (W.add Z.next p).fz Z.next = false := if_pos rfl
   rw [e] at hf; cases hf
  ·have hj' : j < Z.next := by have : j < Z.next + 1 := hj; exact Nat.lt_of_le_of_ne (Nat.le_of_lt_succ (by assumption)) (by assumption)
   rw [hfz j hj'] at hf
   show (∃ es, (if j = Z.next then o' else Z.objs j) = _) \/ ∃ vs, (if j = Z.next then o' else Z.objs j) = _
   rw [if_neg q]; exact R.frz j hj' hf
 ·have t := R.tup a vs e
  refine ⟨hk _ _ t.1, λ q => ?_, t.2.2⟩
  have e' := t.1
  rcases hown a q with z | z | z
  ·exact t.2.1 z
  ·exact (ne a _ e').1 z
  ·exact (ne a _ e').2 z
 ·have : i = Z.next := by lia
  subst this
  have e : (W.add Z.next p).ad Z.next = p := if_pos rfl
  rw [e]; exact ⟨n1, n2⟩
noncomputable def Gh.tup (W : Gh) (a : Addr) (o : Obj) : Gh := { W with T := λ b => if b = a then some o else W.T b }
theorem dA.tuple (R : dA S W Z h) (hk : ∀ b o, h.get? b = some o -> h'.get? b = some o) {a : Addr} {o : Obj} (n1 : h.get? a = none) (ht : h'.get? a = some o) (hi : Ho o) :
  dA S (W.tup a o) Z h' /\ bE lO W Z.next h (W.tup a o) Z.next h' := by
 have ne : ∀ b vs, W.T b = some vs -> b ≠ a := λ b vs e q => by
  have e' := (R.tup b vs e).1
  rw [q, n1] at e'; exact bG e'
 have hT : ∀ b vs, W.T b = some vs -> (W.tup a o).T b = some vs := λ b vs e => by show (if b = a then _ else _) = _; rw [if_neg (ne b vs e)]; exact e
 refine ⟨⟨λ b o e => hk b o (R.base b o e), λ i hi => (R.obj i hi).mono (Nat.le_refl _) (λ _ _ => rfl) hT (λ o e => hk _ o e) (λ o e => hk _ o e), R.apart, R.fresh, R.above, R.frz, λ b vs e => ?_⟩,
  ⟨Nat.le_refl _, λ _ _ => rfl, hT, λ _ _ e => e, λ b o e _ _ => hk b o e, λ b o e => ⟨o, hk b o e⟩, λ i h1 h2 => absurd h1 (Nat.not_le.mpr h2), λ b e ⟨o', e'⟩ => by
   show (if b = a then _ else _) = _
   rw [if_neg (λ q => by rw [q, n1] at e'; exact bG e')]; exact e⟩⟩
 have e' : (if b = a then some o else W.T b) = some vs := e
 by_cases q : b = a
 ·subst q
  rw [if_pos rfl] at e'
  cases ej e'
  refine ⟨ht, λ q => ?_, trivial, hi⟩
  obtain ⟨o, e⟩ := R.ownSome q
  rw [n1] at e; exact bG e
 ·rw [if_neg q] at e'
  have t := R.tup b vs e'
  exact ⟨hk _ _ t.1, t.2⟩
theorem dA.store (R : dA S W Z h) {L : Addr} (hL : ¬ Ac W Z.next L) (h0 : S.h₀.get? L = none) (hT : W.T L = none)
  (hs : ∀ b o, b ≠ L -> h.get? b = some o -> h'.get? b = some o) (hd : ∃ o, h'.get? L = some o) : dA S W Z h' /\ bE (· = L) W Z.next h W Z.next h' := by
 refine ⟨⟨λ b o e => hs b o (λ q => by rw [q, h0] at e; exact bG e) (R.base b o e), λ j hj => ?_, R.apart, R.fresh, R.above, R.frz, λ b vs e => ?_⟩,
  ⟨Nat.le_refl _, λ _ _ => rfl, λ _ _ e => e, λ _ _ e => e, λ b o e _ n2 => hs b o n2 e, λ b o e => ?_, λ i h1 h2 => absurd h1 (Nat.not_le.mpr h2), λ _ e _ => e⟩⟩
 ·exact (R.obj j hj).mono (Nat.le_refl _) (λ _ _ => rfl) (λ _ _ e => e) (λ o e => hs _ o (λ q => hL ⟨j, hj, .inl q.symm⟩) e) (λ o e => hs _ o (λ q => hL ⟨j, hj, .inr q.symm⟩) e)
 ·have := R.tup b vs e
  exact ⟨hs b _ (λ q => by rw [q, hT] at e; exact bG e) this.1, this.2⟩
 ·by_cases q : b = L
  ·rw [q]; exact hd
  ·exact ⟨o, hs b o q e⟩
end
end
section
variable (S : eP)
structure lT (env : Env) (W : Gh) (n : Nat) (h : Heap) : Prop where
 kind : env.scope.kind = .function
 glob : env.globals = mainGlobals
 bltn : env.builtins = builtinsNs
 ns : ∃ m, h.Ns env.locals m
 own : ¬ Ac W n env.locals
 base : S.h₀.get? env.locals = none
 cell : ∀ x c, env.cells.lookup x = some c -> (∃ v, h.IsCell c v) /\ ¬ Ac W n c /\ S.h₀.get? c = none
 apart : ∀ x y c, env.cells.lookup x = some c -> env.cells.lookup y = some c -> x = y
def Holds (env : Env) (h : Heap) (x : Str) (v : Value) : Prop :=
 (env.kindOf x = some .local /\ ∃ m, h.Ns env.locals m /\ m x = some v) \/
 ((env.kindOf x = some .cell \/ env.kindOf x = some .free) /\ ∃ c, env.cells.lookup x = some c /\ h.IsCell c (some v))
noncomputable abbrev ag := List (Option PV)
noncomputable abbrev M (α : Type) := St -> Option (α × St)
noncomputable def cb {α β : Type} (m : Option (α × St)) (f : α -> St -> Option (β × St)) : Option (β × St) := match m with
 | some (a, Z) => f a Z
 | none => none
theorem uz {α β : Type} {m : Option (α × St)} {f : α -> St -> Option (β × St)} {r : β × St} (h : cb m f = some r) : ∃ a Z, m = some (a, Z) /\ f a Z = some r := by
 unfold cb at h
 split at h
 ·exact lW _ _ rfl h
 ·exact bG h
theorem ba {α β : Type} {m : Option (α × St)} {f : α -> St -> Option (β × St)} {r : β × St} {C : Prop} (h : cb m f = some r) (k : ∀ a Z, m = some (a, Z) -> f a Z = some r -> C) : C := (jn (uz h) λ a Z h1 h2 => k a Z h1 h2)
theorem eY {α β γ : Type} {m : Option ((α × γ) × St)} {f : α × γ -> St -> Option (β × St)} {r : β × St} {C : Prop} (h : cb m f = some r) (k : ∀ a c Z, m = some ((a, c), Z) -> f (a, c) Z = some r -> C) : C := let ⟨⟨a, c⟩, Z, h1, h2⟩ := uz h; k a c Z h1 h2
noncomputable def fO (x : Str) : Bool := x == ("__debug__" : Str) || x == ("__classdict__" : Str)
def ik (env : Env) (W : Gh) (n : Nat) (h : Heap) (ns : List Str) (fr : ag) : Prop :=
 ∀ (k : Nat) (x : Str) (pv : PV), ns[k]? = some x -> fr[k]? = some (some pv) -> ∃ v, VR W n pv v /\ Holds env h x v
structure Gn where
 glob : List Str
 cell : List Str
structure GL (g : Gn) (env : Env) : Prop where
 glob : ∀ x, x ∈ g.glob -> env.kindOf x = some .globalImplicit
 cell : ∀ x, x ∈ g.cell -> env.kindOf x = some .cell /\ ∃ c, env.cells.lookup x = some c
structure gF (d : Nat) (A : Around) : Prop where
 handled : A.handled = none
 depth : A.depth + d < 690
 units : A.units + 8 * d + 100 < 9900
theorem gF.le {d d' : Nat} {A : Around} (r : gF d A) (h : d' <= d) : gF d' A := ⟨r.handled, by have := r.depth; lia, by have := r.units; lia⟩
def jS (W : Gh) (n : Nat) (s : Shared) (pv : PV) (Z' : St) (Q : Value -> Shared -> Prop) : Prop :=
 ∀ W' v h' tk, dA S W' Z' h' -> bE lO W n s.heap W' Z'.next h' -> VR W' Z'.next pv v -> Q v { s with heap := h', toks := tk }
def vX (W : Gh) (n : Nat) (s : Shared) (pv : List PV) (Z' : St) (Q : List Value -> Shared -> Prop) : Prop :=
 ∀ W' v h' tk, dA S W' Z' h' -> bE lO W n s.heap W' Z'.next h' -> fy W' Z'.next pv v -> Q v { s with heap := h', toks := tk }
def qj (W : Gh) (n : Nat) (s : Shared) (b : Bool) (Z' : St) (Q : Bool -> Shared -> Prop) : Prop :=
 ∀ W' h' tk, dA S W' Z' h' -> bE lO W n s.heap W' Z'.next h' -> Q b { s with heap := h', toks := tk }
def SE (d : Nat) (g : Gn) (ns : List Str) (e : Expr) (m : ag -> M PV) : Prop :=
 ∀ (A : Around) (env : Env) (W : Gh) (fr : ag) (Z : St) (s : Shared) (Q : Value -> Shared -> Prop) (E : Value -> Shared -> Prop) (pv : PV) (Z' : St),
  gF d A -> GL g env -> dA S W Z s.heap -> lT S env W Z.next s.heap -> ik env W Z.next s.heap ns fr -> m fr Z = some (pv, Z') -> jS S W Z.next s pv Z' Q ->
  wpAny (model S.prog S.w) A (eval e env) Q E s
def ST (d : Nat) (g : Gn) (ns : List Str) (e : Expr) (m : ag -> M Bool) : Prop :=
 ∀ (A : Around) (env : Env) (W : Gh) (fr : ag) (Z : St) (s : Shared) (Q : Bool -> Shared -> Prop) (E : Value -> Shared -> Prop) (b : Bool) (Z' : St),
  gF d A -> GL g env -> dA S W Z s.heap -> lT S env W Z.next s.heap -> ik env W Z.next s.heap ns fr -> m fr Z = some (b, Z') -> qj S W Z.next s b Z' Q ->
  wpAny (model S.prog S.w) A (isTrue e env (eval e env)) Q E s
def Ev (d : Nat) (g : Gn) (ns : List Str) (es : List Expr) (m : ag -> M (List PV)) : Prop :=
 ∀ (A : Around) (env : Env) (W : Gh) (fr : ag) (Z : St) (s : Shared) (Q : List Value -> Shared -> Prop) (E : Value -> Shared -> Prop) (pv : List PV) (Z' : St) (pos : Pos),
  gF d A -> GL g env -> dA S W Z s.heap -> lT S env W Z.next s.heap -> ik env W Z.next s.heap ns fr -> m fr Z = some (pv, Z') -> vX S W Z.next s pv Z' Q ->
  wpAny (model S.prog S.w) A (spliced (backTo pos (starEach es env))) Q E s
section
variable {S}
theorem jS.next {W W1 : Gh} {n n1 : Nat} {s : Shared} {pv : PV} {Z' : St} {Q : Value -> Shared -> Prop} (P : jS S W n s pv Z' Q) {h1 : Heap} {tk : Nat} (t : bE lO W n s.heap W1 n1 h1) :
  jS S W1 n1 { s with heap := h1, toks := tk } pv Z' Q := λ W' v h' tk R t' x => P W' v h' tk R (t.comp t') x
theorem vX.next {W W1 : Gh} {n n1 : Nat} {s : Shared} {pv : List PV} {Z' : St} {Q : List Value -> Shared -> Prop} (P : vX S W n s pv Z' Q) {h1 : Heap} {tk : Nat} (t : bE lO W n s.heap W1 n1 h1) :
  vX S W1 n1 { s with heap := h1, toks := tk } pv Z' Q := λ W' v h' tk R t' x => P W' v h' tk R (t.comp t') x
theorem qj.next {W W1 : Gh} {n n1 : Nat} {s : Shared} {pv : Bool} {Z' : St} {Q : Bool -> Shared -> Prop} (P : qj S W n s pv Z' Q) {h1 : Heap} {tk : Nat} (t : bE lO W n s.heap W1 n1 h1) :
  qj S W1 n1 { s with heap := h1, toks := tk } pv Z' Q := λ W' h' tk R t' => P W' h' tk R (t.comp t')
theorem jS.here {W : Gh} {Z : St} {s : Shared} {pv : PV} {Q : Value -> Shared -> Prop} (P : jS S W Z.next s pv Z Q) (R : dA S W Z s.heap) {v : Value} (x : VR W Z.next pv v) (tk : Nat) : Q v { s with toks := tk } :=
 P W v s.heap tk R .refl x
theorem qj.here {W : Gh} {Z : St} {s : Shared} {pv : Bool} {Q : Bool -> Shared -> Prop} (P : qj S W Z.next s pv Z Q) (R : dA S W Z s.heap) (tk : Nat) : Q pv { s with toks := tk } :=
 P W s.heap tk R .refl
theorem Heap.IsCell.at' {h h' : Heap} {c : Addr} {v : Option Value} (x : h.IsCell c v) (e : ∀ o, h.get? c = some o -> h'.get? c = some o) : h'.IsCell c v := (aQ x λ o ho hd => ⟨o, e o ho, hd⟩)
theorem lT.trans {env : Env} {W W' : Gh} {n n' : Nat} {h h' : Heap} (F : lT S env W n h) (t : bE lO W n h W' n' h') : lT S env W' n' h' := by
 refine br F.ns λ m hm => ?_
 refine iV (id hm) λ o _ _ ho _ => ?_
 refine ⟨F.kind, F.glob, F.bltn, ⟨m, hm.at' λ o e => t.ext _ o e (λ q => F.own q.all) (λ q => q)⟩, λ q => F.own (t.all_back ho q), F.base, λ x c e => ?_, F.apart⟩
 refine bN (F.cell x c e) λ qq1 n1 n2 => ?_; obtain ⟨v, hv⟩ := qq1
 refine aQ (id hv) λ o' ho' _ => ?_
 exact ⟨⟨v, Heap.IsCell.at' hv λ o e => t.ext _ o e (λ q => n1 q.all) (λ q => q)⟩, λ q => n1 (t.all_back ho' q), n2⟩
theorem ik.trans {env : Env} {W W' : Gh} {n n' : Nat} {h h' : Heap} {ns : List Str} {fr : ag} (V : ik env W n h ns fr) (F : lT S env W n h) (t : bE lO W n h W' n' h') : ik env W' n' h' ns fr := by
 intro k x pv h1 h2
 refine aQ (V k x pv h1 h2) λ v hv hh => ?_
 refine cC v (t.vr hv) ?_
 rcases hh with ⟨a, m, b, c⟩ | ⟨a, c, b, d⟩
 ·exact .inl ⟨a, m, b.at' λ o e => t.ext _ o e (λ q => F.own q.all) (λ q => q), c⟩
 ·exact .inr ⟨a, c, b, Heap.IsCell.at' d λ o e => t.ext _ o e (λ q => (F.cell x c b).2.1 q.all) (λ q => q)⟩
end
variable {S}
variable {d : Nat} {g : Gn} {ns : List Str}
noncomputable def bq : ag -> M PV := λ _ Z => some (.none, Z)
noncomputable def de (b : Bool) : ag -> M PV := λ _ Z => some (.bool b, Z)
noncomputable def aS (k : Int) : ag -> M PV := λ _ Z => some (.int k, Z)
noncomputable def Be (x : Str) : ag -> M PV := λ _ Z => some (.str x, Z)
noncomputable def ab (k : Nat) : ag -> M PV := λ fr Z => match fr[k]? with
 | some (some v) => some (v, Z)
 | _ => none
theorem bu {k p} : SE S d g ns (.Constant .none k p) bq := by
 intro A env W fr Z s Q E pv Z' r gl R F V e P
 refine gx e ?_; rintro rfl rfl
 show wpAny _ _ (pure Value.none) _ _ _
 exact wpAny_pure (P.here R .none s.toks)
theorem cY {b k p} : SE S d g ns (.Constant (.bool b) k p) (de b) := by
 intro A env W fr Z s Q E pv Z' r gl R F V e P
 refine gx e ?_; rintro rfl rfl
 show wpAny _ _ (pure (Value.bool b)) _ _ _
 exact wpAny_pure (P.here R (.bool b) s.toks)
theorem a8 {i k p} : SE S d g ns (.Constant (.int i) k p) (aS i) := by
 intro A env W fr Z s Q E pv Z' r gl R F V e P
 refine gx e ?_; rintro rfl rfl
 exact wpAny_Constant_int (P.here R (.int i _) _)
theorem sU {x k p} : SE S d g ns (.Constant (.str x) k p) (Be x) := by
 intro A env W fr Z s Q E pv Z' r gl R F V e P
 refine gx e ?_; rintro rfl rfl
 exact Constant_str (P.here R (.str x _) _)
theorem Dx {A : Around} {env : Env} {s : Shared} {Q : Value -> Shared -> Prop} {E : Value -> Shared -> Prop} {x : Str} {p : Pos} {v : Value} {M : Model} (hk : env.scope.kind = .function) (hb : fO x = false) (hh : Holds env s.heap x v) (q : Q v s) :
  wpAny M A (eval (.Name x p) env) Q E s := by
 unfold fO at hb
 rw [Bool.or_eq_false_iff] at hb
 rcases hh with ⟨a, m, b, c⟩ | ⟨a | a, c, b, e⟩
 ·exact wpAny_Name (wpAny_loadName_local hk a b c q) hb.1
 ·exact wpAny_Name (wpAny_loadName_cell hk a b e q) hb.1
 ·exact wpAny_Name (wpAny_loadName_free hk a b e q hb.2) hb.1
theorem aa {x : Str} {p : Pos} (k : Nat) (hx : ns[k]? = some x := by rfl) (hb : fO x = false := by decide +kernel) : SE S d g ns (.Name x p) (ab k) := by
 intro A env W fr Z s Q E pv Z' r gl R F V e P
 unfold ab at e
 split at e
 ·rename_i v hv
  refine gx e ?_; rintro rfl rfl
  refine aQ (V k x _ hx hv) λ v' hv' hh => ?_
  exact Dx F.kind hb hh (P.here R hv' s.toks)
 ·exact bG e
def zm (S : eP) (d : Nat) (op : Operator) (f : PV -> PV -> M PV) : Prop :=
 ∀ (A : Around) (W : Gh) (Z : St) (s : Shared) (Q : Value -> Shared -> Prop) (E : Value -> Shared -> Prop) (x y : PV) (vx vy : Value) (pv : PV) (Z' : St),
  gF d A -> dA S W Z s.heap -> VR W Z.next x vx -> VR W Z.next y vy -> f x y Z = some (pv, Z') -> jS S W Z.next s pv Z' Q -> wpAny (model S.prog S.w) A (binaryOp op vx vy) Q E s
def bA (f : PV -> PV -> M PV) (a b : ag -> M PV) : ag -> M PV := λ fr Z => cb (a fr Z) λ x Z1 => cb (b fr Z1) λ y Z2 => f x y Z2
theorem cz {op f l r p a b} (ho : zm S d op f) (ha : SE S d g ns l a) (hb : SE S d g ns r b) : SE S d g ns (.BinOp l op r p) (bA f a b) := by
 intro A env W fr Z s Q E pv Z' rm gl R F V e P
 refine ba e ?_; clear e; intro x Z1 e1 e
 refine ba e ?_; clear e; intro y Z2 e2 e
 refine wpAny_BinOp (ha A env W fr Z s _ E x Z1 rm gl R F V e1 λ W1 vx h1 tk1 R1 t1 x1 => ?_)
 refine hb A env W1 fr Z1 _ _ E y Z2 rm gl R1 (F.trans t1) (V.trans F t1) e2 λ W2 vy h2 tk2 R2 t2 y2 => ?_
 exact ho A W2 Z2 _ Q E x y vx vy pv Z' rm R2 (t2.vr x1) y2 e ((P.next t1).next t2)
noncomputable def dq : PV -> PV -> M PV := λ x y Z => match x, y with | .int a, .int b => some (.int (a + b), Z) | _, _ => none
theorem eT : zm S d .Add dq := by
 intro A W Z s Q E x y vx vy pv Z' r R hx hy e P
 unfold dq at e
 split at e
 ·refine gx e ?_; rintro rfl rfl; cases hx; cases hy; exact add_int (P.here R (.int _ _) _)
 ·exact bG e
noncomputable def hH : PV -> PV -> M PV := λ x y Z => match x, y with | .int a, .int b => some (.int (a - b), Z) | _, _ => none
theorem kH : zm S d .Sub hH := by
 intro A W Z s Q E x y vx vy pv Z' r R hx hy e P
 unfold hH at e
 split at e
 ·refine gx e ?_; rintro rfl rfl; cases hx; cases hy; exact sub_int (P.here R (.int _ _) _)
 ·exact bG e
end
section
variable {S : eP}
variable {d : Nat} {g : Gn} {ns : List Str}
noncomputable def lh : PV -> PV -> M PV := λ x y Z => match x, y with
 | .int a, .int b => if b.natAbs < 4096 /\ a.natAbs < 1073741824 then some (.int (a * b), Z) else none
 | _, _ => none
theorem uu {a : Int} (h : a.natAbs < 1073741824) : Builtin.Int.intBits a <= 64 := by
 unfold Builtin.Int.intBits
 split
 ·exact Nat.zero_le _
 ·rename_i h0
  have h0' : a.natAbs ≠ 0 := by simpa using h0
  have := (Nat.log2_lt h0').mpr (Nat.lt_of_lt_of_le h (show (1073741824 : Nat) <= 2 ^ 30 by decide))
  lia
theorem vW : zm S d .Mult lh := by
 intro A W Z s Q E x y vx vy pv Z' r R hx hy e P
 unfold lh at e
 split at e
 ·split at e
  ·rename_i hc
   refine gx e ?_; rintro rfl rfl; cases hx; cases hy; exact mul_int (P.here R (.int _ _) _) (.of_left (uu hc.2))
  ·exact bG e
 ·exact bG e
noncomputable def DM : PV -> PV -> M PV := λ x y Z => match x, y with
 | .int a, .int b => if b ≠ 0 /\ b.natAbs < 1073741824 then some (.int (a.fdiv b), Z) else none
 | _, _ => none
theorem Ft : zm S d .FloorDiv DM := by
 intro A W Z s Q E x y vx vy pv Z' r R hx hy e P
 unfold DM at e
 split at e
 ·split at e
  ·rename_i hc
   refine gx e ?_; rintro rfl rfl; cases hx; cases hy; exact floordiv_int hc.1 (P.here R (.int _ _) _) (.inl (PyProof.noPylong_small hc.2))
  ·exact bG e
 ·exact bG e
noncomputable def yF : PV -> PV -> M PV := λ x y Z => match x, y with
 | .int a, .int b => if b ≠ 0 then some (.int (a.fmod b), Z) else none
 | _, _ => none
theorem Bt : zm S d .Mod yF := by
 intro A W Z s Q E x y vx vy pv Z' r R hx hy e P
 unfold yF at e
 split at e
 ·split at e
  ·rename_i hc
   refine gx e ?_; rintro rfl rfl; cases hx; cases hy; exact mod_int' hc (P.here R (.int _ _) _)
  ·exact bG e
 ·exact bG e
noncomputable def gm : PV -> Option Bool
 | .bool b => some b
 | .none => some false
 | _ => none
theorem kn {A : Around} {W : Gh} {n : Nat} {x : PV} {v : Value} {b : Bool} {s : Shared} {Q : Bool -> Shared -> Prop} {E : Value -> Shared -> Prop} {M : Model} (hx : VR W n x v) (hb : gm x = some b) (q : Q b s) : wpAny M A (truthy v) Q E s := by
 cases hx <;> first | (cases hb; exact λ _ _ _ => q) | exact bG hb
def ty (a : ag -> M PV) : ag -> M PV := λ fr Z => cb (a fr Z) λ x Z1 => match gm x with | some b => some (.bool (!b), Z1) | none => none
theorem y0 {e p a} (ha : SE S d g ns e a) : SE S d g ns (.UnaryOp .Not e p) (ty a) := by
 intro A env W fr Z s Q E pv Z' r gl R F V e P
 refine ba e ?_; clear e; intro x Z1 e1 e
 split at e
 ·rename_i b hb
  refine gx e ?_; rintro rfl rfl
  rw [arm_eval_UnaryOp]
  refine wpAny_bind (ha A env W fr Z s _ E x _ r gl R F V e1 λ W1 vx h1 tk1 R1 t1 x1 => wpAny_bind (wpAny_standAt (wpAny_holding ?_)))
  exact not_of (kn x1 hb (P W1 _ h1 tk1 R1 t1 (.bool _)))
 ·exact bG e
def Gx (a : ag -> M PV) : ag -> M PV := λ fr Z => cb (a fr Z) λ x Z1 => match x with | .int k => some (.int (-k), Z1) | _ => none
theorem EY {e p a} (ha : SE S d g ns e a) : SE S d g ns (.UnaryOp .USub e p) (Gx a) := by
 intro A env W fr Z s Q E pv Z' r gl R F V e P
 refine ba e ?_; clear e; intro x Z1 e1 e
 split at e
 ·refine gx e ?_; rintro rfl rfl
  rw [arm_eval_UnaryOp]
  refine wpAny_bind (ha A env W fr Z s _ E _ _ r gl R F V e1 λ W1 vx h1 tk1 R1 t1 x1 => wpAny_bind (wpAny_standAt (wpAny_holding ?_)))
  cases x1
  exact PySem.P.neg_int (P W1 _ h1 _ R1 t1 (.int _ _))
 ·exact bG e
def bz (a : ag -> M PV) : ag -> M Bool := λ fr Z => cb (a fr Z) λ x Z1 => match gm x with | some b => some (b, Z1) | none => none
theorem bV {e a} (ha : SE S d g ns e a) (he : ∀ env whole, isTrue e env whole = (do let v <- whole; standAt e.pos; holding [v] (truthy v)) := by intros; rfl) : ST S d g ns e (bz a) := by
 intro A env W fr Z s Q E b Z' r gl R F V e P
 refine ba e ?_; clear e; intro x Z1 e1 e
 split at e
 ·rename_i b hb
  refine gx e ?_; rintro rfl rfl
  refine isTrue_plain (ha A env W fr Z s _ E x _ r gl R F V e1 λ W1 vx h1 tk1 R1 t1 x1 => ?_) (he _ _)
  exact kn x1 hb (P W1 h1 tk1 R1 t1)
 ·exact bG e
def nA (a : ag -> M Bool) : ag -> M Bool := λ fr Z => cb (a fr Z) λ b Z1 => some (!b, Z1)
theorem nC {e p a} (ha : ST S d g ns e a) : ST S d g ns (.UnaryOp .Not e p) (nA a) := by
 intro A env W fr Z s Q E b Z' r gl R F V e P
 refine ba e ?_; clear e; intro x Z1 e1 e
 refine gx e ?_; rintro rfl rfl
 exact isTrue_not (ha A env W fr Z s _ E x _ r gl R F V e1 λ W1 h1 tk1 R1 t1 => P W1 h1 tk1 R1 t1)
noncomputable def cR : ag -> M Bool := λ _ Z => some (true, Z)
noncomputable def pX : ag -> M Bool := λ _ Z => some (false, Z)
def c9 (a b : ag -> M Bool) : ag -> M Bool := λ fr Z => cb (a fr Z) λ x Z1 => if x then b fr Z1 else some (false, Z1)
def Dg (a b : ag -> M Bool) : ag -> M Bool := λ fr Z => cb (a fr Z) λ x Z1 => if x then some (true, Z1) else b fr Z1
theorem fN {p} : ST S d g ns (.BoolOp .And [] p) cR := by
 intro A env W fr Z s Q E b Z' r gl R F V e P
 refine gx e ?_; rintro rfl rfl; exact isTrue_and_nil (P.here R s.toks)
theorem zp {p} : ST S d g ns (.BoolOp .Or [] p) pX := by
 intro A env W fr Z s Q E b Z' r gl R F V e P
 refine gx e ?_; rintro rfl rfl; exact isTrue_or_nil (P.here R s.toks)
theorem dC {e es p a b} (ha : ST S d g ns e a) (hb : ST S d g ns (.BoolOp .And es p) b) : ST S d g ns (.BoolOp .And (e :: es) p) (c9 a b) := by
 intro A env W fr Z s Q E bb Z' r gl R F V e P
 refine ba e ?_; clear e; intro x Z1 e1 e
 refine isTrue_and (ha A env W fr Z s _ E x _ r gl R F V e1 λ W1 h1 tk1 R1 t1 => ?_)
 cases x with
 | true => exact hb A env W1 fr Z1 _ Q E bb Z' r gl R1 (F.trans t1) (V.trans F t1) e (P.next t1)
 | false => refine gx e ?_; rintro rfl rfl; exact P W1 h1 tk1 R1 t1
theorem uF {e es p a b} (ha : ST S d g ns e a) (hb : ST S d g ns (.BoolOp .Or es p) b) : ST S d g ns (.BoolOp .Or (e :: es) p) (Dg a b) := by
 intro A env W fr Z s Q E bb Z' r gl R F V e P
 refine ba e ?_; clear e; intro x Z1 e1 e
 refine isTrue_or (ha A env W fr Z s _ E x _ r gl R F V e1 λ W1 h1 tk1 R1 t1 => ?_)
 cases x with
 | false => exact hb A env W1 fr Z1 _ Q E bb Z' r gl R1 (F.trans t1) (V.trans F t1) e (P.next t1)
 | true => refine gx e ?_; rintro rfl rfl; exact P W1 h1 tk1 R1 t1
def ui (a b : ag -> M PV) : ag -> M PV := λ fr Z => cb (a fr Z) λ x Z1 => match gm x with | some true => b fr Z1 | some false => some (x, Z1) | none => none
def Eu (a b : ag -> M PV) : ag -> M PV := λ fr Z => cb (a fr Z) λ x Z1 => match gm x with | some false => b fr Z1 | some true => some (x, Z1) | none => none
theorem iG {op e p a} (ha : SE S d g ns e a) : SE S d g ns (.BoolOp op [e] p) a := ha
theorem ph {e1 e2 es p a b} (ha : SE S d g ns e1 a) (hb : SE S d g ns (.BoolOp .And (e2 :: es) p) b) : SE S d g ns (.BoolOp .And (e1 :: e2 :: es) p) (ui a b) := by
 intro A env W fr Z s Q E pv Z' r gl R F V e P
 refine ba e ?_; clear e; intro x Z1 q1 e
 refine BoolOp_and (ha A env W fr Z s _ E x _ r gl R F V q1 λ W1 vx h1 tk1 R1 t1 x1 => ?_)
 split at e
 ·rename_i ht
  refine kn x1 ht ?_
  exact hb A env W1 fr Z1 _ Q E pv Z' r gl R1 (F.trans t1) (V.trans F t1) e (P.next t1)
 ·rename_i ht
  refine gx e ?_; rintro rfl rfl
  exact kn x1 ht (P W1 _ h1 tk1 R1 t1 x1)
 ·exact bG e
theorem wU {e1 e2 es p a b} (ha : SE S d g ns e1 a) (hb : SE S d g ns (.BoolOp .Or (e2 :: es) p) b) : SE S d g ns (.BoolOp .Or (e1 :: e2 :: es) p) (Eu a b) := by
 intro A env W fr Z s Q E pv Z' r gl R F V e P
 refine ba e ?_; clear e; intro x Z1 q1 e
 refine BoolOp_or (ha A env W fr Z s _ E x _ r gl R F V q1 λ W1 vx h1 tk1 R1 t1 x1 => ?_)
 split at e
 ·rename_i ht
  refine kn x1 ht ?_
  exact hb A env W1 fr Z1 _ Q E pv Z' r gl R1 (F.trans t1) (V.trans F t1) e (P.next t1)
 ·rename_i ht
  refine gx e ?_; rintro rfl rfl
  exact kn x1 ht (P W1 _ h1 tk1 R1 t1 x1)
 ·exact bG e
def qi (c : ag -> M Bool) (a b : ag -> M PV) : ag -> M PV := λ fr Z => cb (c fr Z) λ x Z1 => if x then a fr Z1 else b fr Z1
theorem lz {c a b p ec ea eb} (hc : ST S d g ns c ec) (ha : SE S d g ns a ea) (hb : SE S d g ns b eb) : SE S d g ns (.IfExp c a b p) (qi ec ea eb) := by
 intro A env W fr Z s Q E pv Z' r gl R F V e P
 refine ba e ?_; clear e; intro x Z1 e1 e
 refine IfExp_ (hc A env W fr Z s _ E x _ r gl R F V e1 λ W1 h1 tk1 R1 t1 => ?_)
 cases x with
 | true => exact ha A env W1 fr Z1 _ Q E pv Z' r gl R1 (F.trans t1) (V.trans F t1) e (P.next t1)
 | false => exact hb A env W1 fr Z1 _ Q E pv Z' r gl R1 (F.trans t1) (V.trans F t1) e (P.next t1)
def Df (S : eP) (d : Nat) (op : CmpOp) (f : PV -> PV -> St -> Option Bool) : Prop :=
 ∀ (A : Around) (W : Gh) (Z : St) (s : Shared) (Q : Value -> Shared -> Prop) (E : Value -> Shared -> Prop) (x y : PV) (vx vy : Value) (b : Bool),
  gF d A -> dA S W Z s.heap -> VR W Z.next x vx -> VR W Z.next y vy -> f x y Z = some b -> jS S W Z.next s (.bool b) Z Q -> wpAny (model S.prog S.w) A (compareOp op vx vy) Q E s
noncomputable def rO (f : Int -> Int -> Bool) : PV -> PV -> St -> Option Bool := λ x y _ => match x, y with | .int a, .int b => some (f a b) | _, _ => none
def iN := rO λ a b => decide (a < b)
def oZ := rO λ a b => decide (a <= b)
def tD := rO λ a b => decide (b < a)
def EQ := rO λ a b => decide (b <= a)
theorem fV : Df S d .Lt iN := by
 intro A W Z s Q E x y vx vy b r R hx hy e P
 unfold iN rO at e; split at e
 ·cases ej e; cases hx; cases hy; exact lt_int (P.here R (.bool _) s.toks)
 ·exact bG e
theorem oX : Df S d .LtE oZ := by
 intro A W Z s Q E x y vx vy b r R hx hy e P
 unfold oZ rO at e; split at e
 ·cases ej e; cases hx; cases hy; exact le_int (P.here R (.bool _) s.toks)
 ·exact bG e
theorem qt : Df S d .Gt tD := by
 intro A W Z s Q E x y vx vy b r R hx hy e P
 unfold tD rO at e; split at e
 ·cases ej e; cases hx; cases hy; exact gt_int (P.here R (.bool _) s.toks)
 ·exact bG e
theorem Ci : Df S d .GtE EQ := by
 intro A W Z s Q E x y vx vy b r R hx hy e P
 unfold EQ rO at e; split at e
 ·cases ej e; cases hx; cases hy; exact ge_int (P.here R (.bool _) s.toks)
 ·exact bG e
def kQ (x y : PV) : Option Bool := match x with
 | .none => (match y with | .none => some true | .ref _ => some false | .tup _ => some false | .bool _ => some false | _ => none)
 | .ref i => (match y with | .ref j => some (decide (i = j)) | .none => some false | _ => none)
 | .tup _ => (match y with | .none => some false | _ => none)
 | .bool _ => (match y with | .none => some false | _ => none)
 | _ => none
def uQ : PV -> PV -> St -> Option Bool := λ x y _ => kQ x y
def bR : PV -> PV -> St -> Option Bool := λ x y _ => (kQ x y).map (!·)
theorem dA.notTuple {W : Gh} {Z : St} {h : Heap} (R : dA S W Z h) {i : Nat} (hi : i < Z.next) : ∃ o, h.get? (W.ad i).1 = some o /\ o.cls ≠ .type "tuple" := by
 have := R.obj i hi
 cases ho : Z.objs i with
 | inst C fs => rw [ho] at this; exact ⟨_, this.2.1, by simp⟩
 | list vs => rw [ho] at this; obtain ⟨_, _, ⟨_, e⟩, _⟩ := this; exact ⟨_, e, by simp⟩
 | flist vs => rw [ho] at this; obtain ⟨_, _, ⟨_, e⟩, _⟩ := this; exact ⟨_, e, by simp⟩
 | dict es => rw [ho] at this; obtain ⟨_, _, ⟨o, _, _, e, c, _⟩, _⟩ := this; exact ⟨_, e, by rw [c.1]; simp⟩
 | fdict es => rw [ho] at this; obtain ⟨_, _, ⟨o, _, _, e, c, _⟩, _⟩ := this; exact ⟨_, e, by rw [c.1]; simp⟩
theorem dA.adNe {W : Gh} {Z : St} {h : Heap} (R : dA S W Z h) {i j : Nat} (hi : i < Z.next) (hj : j < Z.next) (q : i ≠ j) : (W.ad i).1 ≠ (W.ad j).1 := (R.apart i j hi hj q).1
theorem VR.nI {W : Gh} {n : Nat} {v : Value} (h : VR W n .none v) : v = .none := by cases h; rfl
theorem VR.bI {W : Gh} {n : Nat} {b : Bool} {v : Value} (h : VR W n (.bool b) v) : v = .bool b := by cases h; rfl
theorem VR.rI {W : Gh} {n i : Nat} {v : Value} (h : VR W n (.ref i) v) : i < n /\ v = .ref (W.ad i).1 := by cases h with | ref _ q => exact ⟨q, rfl⟩
theorem VR.tI {W : Gh} {n : Nat} {l : List PV} {v : Value} (h : VR W n (.tup l) v) : ∃ a, v = .ref a := by cases h; exact ⟨_, rfl⟩
theorem zY {A : Around} {W : Gh} {Z : St} {s : Shared} {Q : Bool -> Shared -> Prop} {E : Value -> Shared -> Prop} {x y : PV} {vx vy : Value} {b : Bool} (R : dA S W Z s.heap) (hx : VR W Z.next x vx) (hy : VR W Z.next y vy) (e : kQ x y = some b) (P : Q b s) :
  wpAny (model S.prog S.w) A (isSame vx vy) Q E s := by
 have no : plainIs vx vy = true -> vx ≠ vy -> some false = some b -> wpAny (model S.prog S.w) A (isSame vx vy) Q E s := λ h q e => wpAny_isSame_plain h (by rw [beq_eq_false_iff_ne.mpr q, Option.some.inj e]; exact P)
 cases x with
 | none =>
  have v := hx.nI
  cases y with
  | none =>
   have w := hy.nI
   rw [v, w]
   exact wpAny_isSame_plain rfl (show Q true s by rw [Option.some.inj e]; exact P)
  | ref j => exact no (by rw [v, hy.rI.2]; rfl) (by rw [v, hy.rI.2]; exact nofun) e
  | tup l => exact hy.tI.elim λ a q => no (by rw [v, q]; rfl) (by rw [v, q]; exact nofun) e
  | bool c => exact no (by rw [v, hy.bI]; rfl) (by rw [v, hy.bI]; exact nofun) e
  | _ => exact nomatch e
 | ref i =>
  have v := hx.rI
  cases y with
  | ref j =>
   rw [v.2, hy.rI.2]
   by_cases q : i = j
   ·rw [q]
    exact wpAny_isSame_ref_self (show Q true s by rw [<- decide_eq_true q, Option.some.inj e]; exact P)
   ·refine aQ (R.notTuple v.1) λ o1 h1 n1 => aQ (R.notTuple hy.rI.1) λ o2 h2 n2 => ?_
    exact wpAny_isSame_ref_other (R.adNe v.1 hy.rI.1 q) h1 h2 n1 (show Q false s by rw [<- decide_eq_false q, Option.some.inj e]; exact P)
  | none => exact no (by rw [v.2, hy.nI]; rfl) (by rw [v.2, hy.nI]; exact nofun) e
  | _ => exact nomatch e
 | tup l =>
  refine hx.tI.elim λ a q => ?_
  cases y with
  | none => exact no (by rw [q, hy.nI]; rfl) (by rw [q, hy.nI]; exact nofun) e
  | _ => exact nomatch e
 | bool c =>
   cases y with
   | none => exact no (by rw [hx.bI, hy.nI]; rfl) (by rw [hx.bI, hy.nI]; exact nofun) e
   | _ => exact nomatch e
 | _ => exact nomatch e
theorem lx : Df S d .Is uQ := by
 intro A W Z s Q E x y vx vy b r R hx hy e P
 show wpAny (model S.prog S.w) A (do return .bool (<- isSame vx vy)) Q E s
 exact wpAny_bind (zY R hx hy e (wpAny_pure (P.here R (.bool _) s.toks)))
theorem cx : Df S d .IsNot bR := by
 intro A W Z s Q E x y vx vy b r R hx hy e P
 refine aQ (Option.map_eq_some_iff.mp e) λ b' h1 h2 => ?_
 show wpAny (model S.prog S.w) A (do return .bool (!(<- isSame vx vy))) Q E s
 exact wpAny_bind (zY R hx hy h1 (wpAny_pure (h2 ▸ P.here R (.bool _) s.toks)))
def GX (S : eP) (d : Nat) (g : Gn) (ns : List Str) (ops : List CmpOp) (es : List Expr) (k : PV -> ag -> M Bool) : Prop :=
 ∀ (A : Around) (env : Env) (W : Gh) (fr : ag) (Z : St) (s : Shared) (E : Value -> Shared -> Prop) (x : PV) (vx : Value) (b : Bool) (Z' : St) (pos : Pos),
  gF d A -> GL g env -> dA S W Z s.heap -> lT S env W Z.next s.heap -> ik env W Z.next s.heap ns fr -> VR W Z.next x vx -> k x fr Z = some (b, Z') ->
  (∀ Q, qj S W Z.next s b Z' Q -> wpAny (model S.prog S.w) A (testChain pos vx ops (evalEach es env)) Q E s) /\
  (∀ Q, jS S W Z.next s (.bool b) Z' Q -> wpAny (model S.prog S.w) A (compareChain pos vx ops (evalEach es env)) Q E s)
def az (f : PV -> PV -> St -> Option Bool) (r : ag -> M PV) : PV -> ag -> M Bool := λ x fr Z => cb (r fr Z) λ y Z1 => match f x y Z1 with | some b => some (b, Z1) | none => none
def cH (f : PV -> PV -> St -> Option Bool) (r : ag -> M PV) (k : PV -> ag -> M Bool) : PV -> ag -> M Bool := λ x fr Z => cb (r fr Z) λ y Z1 => match f x y Z1 with | some true => k y fr Z1 | some false => some (false, Z1) | none => none
theorem aO {op e f r} (hf : Df S d op f) (hr : SE S d g ns e r) : GX S d g ns [op] [e] (az f r) := by
 intro A env W fr Z s E x vx b Z' pos rm gl R F V hx e
 refine ba e ?_; clear e; intro y Z1 e1 e
 split at e
 ·rename_i b hb
  refine gx e ?_; rintro rfl rfl
  constructor
  ·intro Q P
   refine wpAny_bind (wpAny_holding (hr A env W fr Z s _ E y _ rm gl R F V e1 λ W1 vy h1 tk1 R1 t1 x1 => wpAny_bind (wpAny_standAt (wpAny_bind (wpAny_operate' ?_)))))
   refine hf A W1 _ _ _ E x y vx vy b rm R1 (t1.vr hx) x1 hb λ W2 v h2 tk2 R2 t2 x2 => ?_
   cases x2
   exact wpAny_holding (wpAny_truthy_bool (P W2 h2 tk2 R2 (t1.comp t2)))
  ·intro Q P
   refine wpAny_bind (wpAny_holding (hr A env W fr Z s _ E y _ rm gl R F V e1 λ W1 vy h1 tk1 R1 t1 x1 => wpAny_bind (wpAny_standAt (wpAny_operate' ?_))))
   exact hf A W1 _ _ _ E x y vx vy b rm R1 (t1.vr hx) x1 hb (P.next t1)
 ·exact bG e
theorem eG {op op2 ops e e2 es f r k} (hf : Df S d op f) (hr : SE S d g ns e r) (hk : GX S d g ns (op2 :: ops) (e2 :: es) k) : GX S d g ns (op :: op2 :: ops) (e :: e2 :: es) (cH f r k) := by
 intro A env W fr Z s E x vx b Z' pos rm gl R F V hx e
 refine ba e ?_; clear e; intro y Z1 e1 e
 constructor
 ·intro Q P
  refine wpAny_bind (wpAny_holding (hr A env W fr Z s _ E y _ rm gl R F V e1 λ W1 vy h1 tk1 R1 t1 x1 => wpAny_bind (wpAny_standAt (wpAny_bind (wpAny_holding ?_)))))
  split at e
  ·rename_i hb
   refine hf A W1 _ _ _ E x y vx vy true rm R1 (t1.vr hx) x1 hb λ W2 v h2 tk2 R2 t2 x2 => ?_
   cases x2
   refine wpAny_bind (wpAny_release' (wpAny_bind (wpAny_holding (wpAny_truthy_bool ?_))))
   have t := t1.comp t2
   exact (hk A env W2 fr Z1 _ E y vy b Z' pos rm gl R2 (F.trans t) (V.trans F t) (t2.vr x1) e).1 Q (P.next t)
  ·rename_i hb
   refine gx e ?_; rintro rfl rfl
   refine hf A W1 _ _ _ E x y vx vy false rm R1 (t1.vr hx) x1 hb λ W2 v h2 tk2 R2 t2 x2 => ?_
   cases x2
   refine wpAny_bind (wpAny_release' (wpAny_bind (wpAny_holding (wpAny_truthy_bool ?_))))
   exact wpAny_pure (P W2 h2 tk2 R2 (t1.comp t2))
  ·exact bG e
 ·intro Q P
  refine wpAny_bind (wpAny_holding (hr A env W fr Z s _ E y _ rm gl R F V e1 λ W1 vy h1 tk1 R1 t1 x1 => wpAny_bind (wpAny_standAt (wpAny_bind (wpAny_holding ?_)))))
  split at e
  ·rename_i hb
   refine hf A W1 _ _ _ E x y vx vy true rm R1 (t1.vr hx) x1 hb λ W2 v h2 tk2 R2 t2 x2 => ?_
   cases x2
   refine wpAny_bind (wpAny_release' (wpAny_bind (wpAny_holding (wpAny_truthy_bool ?_))))
   have t := t1.comp t2
   exact (hk A env W2 fr Z1 _ E y vy b Z' pos rm gl R2 (F.trans t) (V.trans F t) (t2.vr x1) e).2 Q (P.next t)
  ·rename_i hb
   refine gx e ?_; rintro rfl rfl
   refine hf A W1 _ _ _ E x y vx vy false rm R1 (t1.vr hx) x1 hb λ W2 v h2 tk2 R2 t2 x2 => ?_
   cases x2
   refine wpAny_bind (wpAny_release' (wpAny_bind (wpAny_holding (wpAny_truthy_bool ?_))))
   exact wpAny_pure (P W2 _ h2 tk2 R2 (t1.comp t2) (.bool _))
  ·exact bG e
def eD (a : ag -> M PV) (k : PV -> ag -> M Bool) : ag -> M PV := λ fr Z => cb (a fr Z) λ x Z1 => cb (k x fr Z1) λ b Z2 => some (.bool b, Z2)
def aY (a : ag -> M PV) (k : PV -> ag -> M Bool) : ag -> M Bool := λ fr Z => cb (a fr Z) λ x Z1 => k x fr Z1
theorem dX {l ops cs p a k} (ha : SE S d g ns l a) (hk : GX S d g ns ops cs k) (hm : lastMarks ops cs = false := by with_unfolding_all rfl) : SE S d g ns (.Compare l ops cs p) (eD a k) := by
 intro A env W fr Z s Q E pv Z' r gl R F V e P
 refine ba e ?_; clear e; intro x Z1 e1 e
 refine ba e ?_; clear e; intro b Z2 e2 e
 refine gx e ?_; rintro rfl rfl
 rw [arm_eval_Compare, markedEach_of_false _ _ _ hm]
 refine wpAny_bind (ha A env W fr Z s _ E x _ r gl R F V e1 λ W1 vx h1 tk1 R1 t1 x1 => ?_)
 exact (hk A env W1 fr Z1 _ E x vx b _ p r gl R1 (F.trans t1) (V.trans F t1) x1 e2).2 Q (P.next t1)
theorem bf {l ops cs p a k} (ha : SE S d g ns l a) (hk : GX S d g ns ops cs k) (hm : lastMarks ops cs = false := by with_unfolding_all rfl) : ST S d g ns (.Compare l ops cs p) (aY a k) := by
 intro A env W fr Z s Q E b Z' r gl R F V e P
 refine ba e ?_; clear e; intro x Z1 e1 e
 rw [arm_isTrue_Compare, markedEach_of_false _ _ _ hm]
 refine wpAny_bind (ha A env W fr Z s _ E x _ r gl R F V e1 λ W1 vx h1 tk1 R1 t1 x1 => ?_)
 exact (hk A env W1 fr Z1 _ E x vx b _ p r gl R1 (F.trans t1) (V.trans F t1) x1 e).1 Q (P.next t1)
end
section
variable {S : eP}
variable {d : Nat} {g : Gn} {ns : List Str}
structure lU (S : eP) (c : Nat) : Prop where
 hasDict : hasDictIn S.K (S.cadr c) = true
 get : plainGet S.K (S.cadr c) "" = true
 set : findIn S.K (.ref (S.cadr c)) "__setattr__" = some (some (.builtin "object.__setattr__"))
 over : plainOver S.K (S.cadr c) = true
def rq (S : eP) (x : Str) (c k : Nat) : Prop := lU S c /\ (S.flds c)[k]? = some x /\ findIn S.K (.ref (S.cadr c)) x = some none
theorem VR.handed {W : Gh} {n : Nat} {p : PV} {v : Value} (h : VR W n p v) : handedIn v = true := by cases h <;> rfl
theorem AS {o : Obj} {es : Array DictEntry} {ep : Nat} (hd : o.data = .dict es ep) (x : Str) {v : Value} (e : nsFind es x = some v) : lookIn x o = some (some v) := by
 unfold lookIn
 rw [hd]
 dsimp only
 unfold nsFind findBy at e
 rw [<- Array.find?_toList] at e
 refine aQ (Option.map_eq_some_iff.mp e) λ en h1 h2 => ?_
 rw [h1]
 dsimp only
 rw [h2]
theorem se {o : Obj} {es : Array DictEntry} {ep : Nat} (hd : o.data = .dict es ep) (hs : StrKeys es) (x : Str) (e : nsFind es x = none) : lookIn x o = some none := by
 unfold lookIn
 rw [hd]
 dsimp only
 unfold nsFind findBy at e
 rw [<- Array.find?_toList] at e
 rw [Option.map_eq_none_iff.mp e]
 dsimp only
 have : es.toList.any (·.refKey) = false := by
  rw [List.any_eq_false]
  intro en hen
  refine fj (hs en (Array.mem_toList_iff.mp hen)) λ n t hk => ?_
  simp [DictEntry.refKey, hk]
 rw [this]; rfl
theorem yR {A : Around} {W : Gh} {Z : St} {s : Shared} {Q : Value -> Shared -> Prop} {E : Value -> Shared -> Prop} {i c k : Nat} {fs : List PV} {pv : PV} {x : Str} {b : Bool}
  (R : dA S W Z s.heap) (hi : i < Z.next) (ho : Z.objs i = .inst c fs) (at_ : rq S x c k) (hv : fs[k]? = some pv) (P : jS S W Z.next s pv Z Q) :
  wpAny (model S.prog S.w) A (getAttr (.ref (W.ad i).1) x b) Q E s := by
 refine bN at_ λ cf hk hn => ?_
 have O := R.obj i hi
 rw [ho] at O
 obtain ⟨ne, hx, m, ⟨o, es, ep, hd, hdd, hsk, hm⟩, hf, _⟩ := O
 refine aQ (hf k x pv hk hv) λ v e hvr => ?_
 have I : InstAt s.heap (W.ad i).1 (instObj (S.cadr c) (W.ad i).2) (S.cadr c) (some o) := ⟨hx, rfl, rfl, hd⟩
 refine get_value (S.X.keeps R.base) I (plainGet_of (name := "") cf.get).1 (findObj_own cf.hasDict hn rfl (AS hdd x ((hm x).trans e))) hvr.handed ?_
 exact P W v s.heap _ R .refl hvr
noncomputable def dU (tbl : List (Nat × Nat)) (x : PV) (Z : St) : Option PV := match x with
 | .ref i => (match Z.objs i with
  | .inst c fs => (match tbl.lookup c with
   | some k => fs[k]?
   | none => none)
  | _ => none)
 | _ => none
def dp (S : eP) (x : Str) (tbl : List (Nat × Nat)) : Prop := ∀ c k, tbl.lookup c = some k -> rq S x c k
def ak (tbl : List (Nat × Nat)) (a : ag -> M PV) : ag -> M PV := λ fr Z => cb (a fr Z) λ x Z1 => match dU tbl x Z1 with
 | some v => some (v, Z1)
 | none => none
theorem Au {A : Around} {W : Gh} {Z : St} {s : Shared} {Q : Value -> Shared -> Prop} {E : Value -> Shared -> Prop} {pv px : PV} {vx : Value} {x : Str} {tbl : List (Nat × Nat)} {b : Bool} (ht : dp S x tbl) (R : dA S W Z s.heap)
  (hx : VR W Z.next px vx) (h : dU tbl px Z = some pv) (P : jS S W Z.next s pv Z Q) : wpAny (model S.prog S.w) A (getAttr vx x b) Q E s := by
 unfold dU at h
 split at h
 ·split at h
  ·rename_i hi
   split at h
   ·rename_i hk
    cases hx with
    | ref j hj => exact yR R hj hi (ht _ _ hk) h P
   ·exact bG h
  ·exact bG h
 ·exact bG h
theorem aq {e : Expr} {x : Str} {p : Pos} {a : ag -> M PV} (tbl : List (Nat × Nat)) (ht : dp S x tbl) (ha : SE S d g ns e a)
  (he : ∀ env, eval (.Attribute e x p) env = (do
   let o <- eval e env
   standAt p.atName
   let r <- holding [o] (getAttr o x true)
   letTemporaryGo e o r
   pure r) := by intro env; with_unfolding_all rfl) : SE S d g ns (.Attribute e x p) (ak tbl a) := by
 intro A env W fr Z s Q E pv Z' r gl R F V e P
 refine ba e ?_; clear e; intro y Z1 e1 e
 split at e
 ·rename_i v hv
  refine gx e ?_; rintro rfl rfl
  exact Attribute_any_ (ha A env W fr Z s _ E y _ r gl R F V e1 λ W1 vy h1 tk1 R1 t1 x1 => Au ht R1 x1 hv (P.next t1)) (he env)
 ·exact bG e
def fZ (tbl : List (Nat × Nat)) (x : PV) (v : PV) (Z : St) : Option St := match x with
 | .ref i => (match Z.objs i with
  | .inst c fs => (match tbl.lookup c with
   | some k => if k < fs.length then some (Z.set i (.inst c (fs.set k v))) else if k = fs.length /\ k < 100 then some (Z.set i (.inst c (fs ++ [v]))) else none
   | none => none)
  | _ => none)
 | _ => none
theorem B4 {M : Model} {A : Around} {s : Shared} {E : Value -> Shared -> Prop} {a : Addr} {m : Str -> Option Value} {x : Str} {v : Value} {n : Nat} {Q : Unit -> Shared -> Prop} (hn : s.heap.Ns a m) (hz : s.heap.DictLe a n)
  (h : ∀ h', h'.Ns a (λ y => if y = x then some v else m y) -> Heap.SameBut a s.heap h' -> h'.DictLe a (if (m x).isSome then n else n + 1) -> Q () { s with heap := h', toks := s.toks + 1 }) :
  wpAny M A (nsSet a x v) Q E s := by
 refine kz (id hn) λ o es ep ho hd hk hm => ?_
 have hsz := hz o es ep ho hd
 have c : (!es.any (·.key.isStr x) && es.any (·.refKey)) = false := by
  have : es.any (·.refKey) = false := by
   rw [Array.any_eq_false']; intro e he; refine fj (hk e he) λ n t h => ?_; simp [DictEntry.refKey, h]
  rw [this, Bool.and_false]
 unfold nsSet
 refine wpAny_bind (wpAny_bind (wpAny_askSetting (wpAny_pure (wpAny_bind (wpAny_mkText (wpAny_bind (wpAny_loadPart ho ?_)))))))
 rw [hd]
 dsimp only
 rw [aRefKeyMayBeTheName_at, c]
 refine wpAny_updatePart ho ?_
 have key : ∀ e : (m x).isSome = es.any (·.key.isStr x), True := λ _ => trivial
 have hsome : (m x) = (es.find? (·.key.isStr x)).map (·.val) := (hm x).symm
 refine h _ ?_ (Heap.SameBut.update ..) ?_
 ·obtain ⟨cc, dd, dt, sl⟩ := o
  subst hd
  cases hi : es.findIdx? (·.key.isStr x) with
  | some i =>
   refine qv _ _ ep (Heap.get?_update_self _ ho (by simp only [Obj.putName_eq, Obj.putNameByArray, hi]; rfl)) (by simp only [Obj.putName_eq, Obj.putNameByArray, hi]; rfl) (hk.modify _ _) (λ y => ?_)
   show _ = if y = x then some v else m y
   rw [<- hm]; exact findBy_modify (λ n v => v.isStr n) Value.isStr_inj es x y v i hi
  | none =>
   refine qv _ _ (ep + 1) (Heap.get?_update_self _ ho (by simp only [Obj.putName_eq, Obj.putNameByArray, hi]; rfl)) (by simp only [Obj.putName_eq, Obj.putNameByArray, hi]; rfl) (hk.push _ _ _ _) (λ y => ?_)
   show _ = if y = x then some v else m y
   rw [<- hm]
   exact findBy_push (λ n v => v.isStr n) es x y _ _ v (λ z => by
    show (x == z) = decide (z = x)
    by_cases h : z = x
    ·subst h; rfl
    ·simp [h, Ne.symm h]) hi
 ·obtain ⟨cc, dd, dt, sl⟩ := o
  subst hd
  intro o' es' ep' ho' hd'
  cases hi : es.findIdx? (·.key.isStr x) with
  | some i =>
   have e1 := Heap.get?_update_self (Obj.putName x (PyData.keyHash M.w.params x) (.str x s.toks) v) ho (by simp only [Obj.putName_eq, Obj.putNameByArray, hi]; rfl)
   have e2 : s.heap.update a (Obj.putName x (PyData.keyHash M.w.params x) (.str x s.toks) v) = s.heap.update a (Obj.putName x (PyData.keyHash M.w.params x) (.str x s.toks) v) := rfl
   have ho'' := e1.symm.trans ho'
   cases ho''
   simp only [Obj.putName_eq, Obj.putNameByArray, hi] at hd'
   cases hd'
   rw [Array.size_modify]
   split <;> lia
  | none =>
   have e1 := Heap.get?_update_self (Obj.putName x (PyData.keyHash M.w.params x) (.str x s.toks) v) ho (by simp only [Obj.putName_eq, Obj.putNameByArray, hi]; rfl)
   have ho'' := e1.symm.trans ho'
   cases ho''
   simp only [Obj.putName_eq, Obj.putNameByArray, hi] at hd'
   cases hd'
   rw [Array.size_push]
   have : (m x).isSome = false := by
    rw [hsome, Option.isSome_map]
    cases q : es.find? (·.key.isStr x) with
    | none => rfl
    | some e =>
     have h1 : (es.findIdx? (·.key.isStr x)).isSome = true := by
      rw [Array.findIdx?_isSome, Array.any_eq_true]
      obtain ⟨j, hj, hj'⟩ := Array.mem_iff_getElem.mp (Array.mem_of_find?_eq_some q)
      have h2 := Array.find?_some (p := λ e : DictEntry => e.key.isStr x) q
      exact ⟨j, hj, by rw [hj']; exact h2⟩
     rw [hi] at h1; cases h1
   rw [this]
   simp only [Bool.false_eq_true, if_false]
   exact Nat.lt_succ_of_le (by assumption)
theorem dA.unfz {W : Gh} {Z : St} {h : Heap} (R : dA S W Z h) {i : Nat} (hi : i < Z.next) (hn : (∀ es, Z.objs i ≠ .fdict es) /\ ∀ vs, Z.objs i ≠ .flist vs) : W.fz i = false := by
 cases q : W.fz i with
 | false => rfl
 | true =>
  rcases R.frz i hi q with ⟨es, he⟩ | ⟨vs, he⟩
  ·exact absurd he (hn.1 es)
  ·exact absurd he (hn.2 vs)
theorem sa {A : Around} {W : Gh} {Z : St} {s : Shared} {Q : Unit -> Shared -> Prop} {E : Value -> Shared -> Prop} {i c k : Nat} {fs fs' : List PV} {pv : PV} {v : Value} {x : Str}
  (R : dA S W Z s.heap) (hi : i < Z.next) (ho : Z.objs i = .inst c fs) (at_ : rq S x c k) (hv : VR W Z.next pv v)
  (h0 : k <= fs.length) (hl' : fs'.length = if k < fs.length then fs.length else fs.length + 1) (hmx : fs'.length <= 100) (h1 : fs'[k]? = some pv) (h2 : ∀ j, j ≠ k -> fs'[j]? = fs[j]?) (h3 : fs.length <= fs'.length)
  (P : ∀ h' tk, dA S W (Z.set i (.inst c fs')) h' -> bE lO W Z.next s.heap W Z.next h' -> Q () { s with heap := h', toks := tk }) :
  wpAny (model S.prog S.w) A (setAttr (.ref (W.ad i).1) x v) Q E s := by
 refine bN at_ λ cf hk hn => ?_
 have O := R.obj i hi
 rw [ho] at O
 obtain ⟨ne, hx, m, hns, hf, hg, hz, hl⟩ := O
 refine kz (id hns) λ o es ep hd hdd hsk hm => ?_
 have I : InstAt s.heap (W.ad i).1 (instObj (S.cadr c) (W.ad i).2) (S.cadr c) (some o) := ⟨hx, rfl, rfl, hd⟩
 have X := S.X.keeps R.base
 refine set_plain X I cf.set (osa_open (s := { s with toks := s.toks + 1 }) X I cf.over (by unfold takerIn; rw [hn]; rfl) λ b => ?_)
 refine aQ (any_some cf.hasDict) λ cd hc hd' => ?_
 refine wpAny_bind (wpAny_pure (wpAny_bind (wpAny_bind (wpAny_loadPart hx (wpAny_bind (looks_clsIn X hc _ _ _ _ (λ _ _ e => e) ?_))))))
 rw [hd']
 refine wpAny_pure (a := some (W.ad i).2) (wpAny_bind (wpAny_pure (wpAny_bind (B4 (s := { s with toks := s.toks + 1 }) hns hz λ h' hn' hs' hz' => ?_))))
 have hz2 : h'.DictLe (W.ad i).2 fs'.length := by
  rw [hl']
  by_cases q : k < fs.length
  ·rw [if_pos q]
   refine aQ (hf k x fs[k] hk (by simp [q])) λ v0 e0 _ => ?_
   rw [e0] at hz'; exact hz'
  ·rw [if_neg q]; exact hz'.mono (by split <;> lia)
 refine kz (id hn') λ o' es' ep' ho' hd2 _ _ => ?_
 have hle := hz2 o' es' ep' ho' hd2
 refine wpAny_bind (wpAny_lookBehind ho' (by rw [hd2]; exact pastItsLine_dict (by rw [sizeLine_eq]; lia)) (wpAny_pure ?_))
 have hx' : h'.get? (W.ad i).1 = some (instObj (S.cadr c) (W.ad i).2) := (hs'.2 _ ne).trans hx
 have hob : iU S W Z.next h' (W.ad i) (.inst c fs') := by
  refine ⟨ne, hx', _, hn', λ j y pv' e1 e2 => ?_, λ y hy => ?_, hz2, hmx⟩
  ·by_cases q : j = k
   ·subst q
    rw [hk] at e1; cases ej e1
    rw [h1] at e2; cases ej e2
    exact ⟨v, if_pos rfl, hv⟩
   ·rw [h2 j q] at e2
    refine aQ (hf j y pv' e1 e2) λ v' e3 hv' => ?_
    refine ⟨v', ?_, hv'⟩
    show (if y = x then _ else _) = _
    rw [if_neg (λ z => q (S.inj c j k x (by rw [z] at e1; exact e1) hk))]; exact e3
  ·have hk' : k < fs'.length := by
    rcases Nat.lt_or_ge k fs'.length with z | z
    ·exact z
    ·rw [List.getElem?_eq_none z] at h1; exact bG h1
   have : y ≠ x := λ z => hy k hk' (z ▸ hk)
   show (if y = x then _ else _) = _
   rw [if_neg this]
   exact hg y λ j hj => hy j (Nat.lt_of_lt_of_le hj h3)
 refine bK (R.upd hi (R.unfz hi (by rw [ho]; exact ⟨(λ _ q => by cases q), (λ _ q => by cases q)⟩)) (a := (W.ad i).2) (.inr rfl) (λ b o hb e => (hs'.2 b hb).trans e) ((iV hn' λ o _ _ e _ => ⟨o, e⟩)) hob) λ R' t' => ?_
 exact P h' _ R' t'
theorem AM {A : Around} {W : Gh} {Z Z' : St} {s : Shared} {Q : Unit -> Shared -> Prop} {E : Value -> Shared -> Prop} {pv px : PV} {v vx : Value} {x : Str} {tbl : List (Nat × Nat)} (ht : dp S x tbl) (R : dA S W Z s.heap)
  (hx : VR W Z.next px vx) (hv : VR W Z.next pv v) (h : fZ tbl px pv Z = some Z')
  (P : ∀ h' tk, dA S W Z' h' -> bE lO W Z.next s.heap W Z'.next h' -> Q () { s with heap := h', toks := tk }) : wpAny (model S.prog S.w) A (setAttr vx x v) Q E s := by
 unfold fZ at h
 split at h
 ·split at h
  ·rename_i i _ c fs hi
   split at h
   ·rename_i k hk
    split at h
    ·rename_i hl
     cases ej h
     cases hx with
     | ref j hj =>
      have O := R.obj i hj
      rw [hi] at O
      obtain ⟨_, _, _, _, _, _, _, hl100⟩ := O
      exact sa (fs' := fs.set k pv) R hj hi (ht _ _ hk) hv (Nat.le_of_lt hl) (by rw [if_pos hl]; simp) (by simpa using hl100) (by simp [hl]) (λ j hj => by simp [Ne.symm hj]) (by simp) P
    ·split at h
     ·rename_i hl
      obtain ⟨hl, hl2⟩ := hl
      subst hl
      cases ej h
      cases hx with
      | ref j hj =>
       refine sa (fs' := fs ++ [pv]) R hj hi (ht _ _ hk) hv (Nat.le_refl _) (by rw [if_neg (Nat.lt_irrefl _)]; simp) (by simp; lia) (by simp) (λ j hj => ?_) (by simp) P
       rcases Nat.lt_or_ge j fs.length with z | z
       ·rw [List.getElem?_append_left z]
       ·rw [List.getElem?_eq_none (by simp; lia), List.getElem?_eq_none (by lia)]
     ·exact bG h
   ·exact bG h
  ·exact bG h
 ·exact bG h
end
section
variable {S : eP}
variable {d : Nat} {g : Gn} {ns : List Str}
inductive FR | next | ret (v : PV)
def GR (W : Gh) (n : Nat) : FR -> Flow -> Prop
 | .next, .next => True
 | .ret p, .ret v => VR W n p v
 | _, _ => False
def FX (env : Env) : Addr -> Prop := λ b => b = env.locals \/ ∃ x, env.cells.lookup x = some b
structure Gp (env : Env) (ns : List Str) : Prop where
 inj : ∀ (k k' : Nat) (x : Str), ns[k]? = some x -> ns[k']? = some x -> k = k'
 kind : ∀ (k : Nat) (x : Str), ns[k]? = some x -> env.kindOf x = some .local \/ (env.kindOf x = some .cell /\ ∃ c, env.cells.lookup x = some c)
def ye (S : eP) (env : Env) (ns : List Str) (W : Gh) (n : Nat) (s : Shared) (f : FR) (fr' : ag) (Z' : St) (Q : Flow -> Shared -> Prop) : Prop :=
 ∀ W' f' h' tk, dA S W' Z' h' -> bE (FX env) W n s.heap W' Z'.next h' -> lT S env W' Z'.next h' -> ik env W' Z'.next h' ns fr' -> GR W' Z'.next f f' -> Q f' { s with heap := h', toks := tk }
def SS (S : eP) (d : Nat) (g : Gn) (ns : List Str) (st : Stmt) (m : ag -> M (FR × ag)) : Prop :=
 ∀ (A : Around) (env : Env) (W : Gh) (fr : ag) (Z : St) (s : Shared) (Q : Flow -> Shared -> Prop) (E : Value -> Shared -> Prop) (f : FR) (fr' : ag) (Z' : St),
  gF d A -> GL g env -> Gp env ns -> dA S W Z s.heap -> lT S env W Z.next s.heap -> ik env W Z.next s.heap ns fr -> m fr Z = some ((f, fr'), Z') -> ye S env ns W Z.next s f fr' Z' Q ->
  wpAny (model S.prog S.w) A (exec st env) Q E s
def SB (S : eP) (d : Nat) (g : Gn) (ns : List Str) (st : List Stmt) (m : ag -> M (FR × ag)) : Prop :=
 ∀ (A : Around) (env : Env) (W : Gh) (fr : ag) (Z : St) (s : Shared) (Q : Flow -> Shared -> Prop) (E : Value -> Shared -> Prop) (f : FR) (fr' : ag) (Z' : St),
  gF d A -> GL g env -> Gp env ns -> dA S W Z s.heap -> lT S env W Z.next s.heap -> ik env W Z.next s.heap ns fr -> m fr Z = some ((f, fr'), Z') -> ye S env ns W Z.next s f fr' Z' Q ->
  wpAny (model S.prog S.w) A (execs st env) Q E s
theorem bE.toX {X : Addr -> Prop} {W W' : Gh} {n n' : Nat} {h h' : Heap} (t : bE lO W n h W' n' h') : bE X W n h W' n' h' := t.weaken λ _ q => q.elim
theorem ye.next {env : Env} {W W1 : Gh} {n n1 : Nat} {s : Shared} {f : FR} {fr' : ag} {Z' : St} {Q : Flow -> Shared -> Prop} (P : ye S env ns W n s f fr' Z' Q) {h1 : Heap} {tk : Nat} (t : bE (FX env) W n s.heap W1 n1 h1) :
  ye S env ns W1 n1 { s with heap := h1, toks := tk } f fr' Z' Q := λ W' f' h' tk R t' F V x => P W' f' h' tk R (t.comp t') F V x
theorem lT.cellNe {env : Env} {W : Gh} {n : Nat} {h : Heap} (F : lT S env W n h) {x : Str} {c : Addr} (e : env.cells.lookup x = some c) : c ≠ env.locals := by
 refine bN (F.cell x c e) λ qq1 _ _ => ?_; obtain ⟨v, o, ho, hd⟩ := qq1
 refine CH F.ns λ m o' es ep ho' hd' _ => ?_
 intro q
 rw [q, ho'] at ho
 cases ej ho
 rw [hd'] at hd; cases hd
theorem dA.noTup {W : Gh} {Z : St} {h : Heap} (R : dA S W Z h) {a : Addr} {o : Obj} (ho : h.get? a = some o) (hd : (∀ vs n, o.data ≠ .seq vs n) /\ ∀ vs, o.data ≠ .fields vs) : W.T a = none := by
 cases q : W.T a with
 | none => rfl
 | some vs =>
  refine iH (R.tup a vs q) λ ho' _ _ hi => ?_
  rw [ho] at ho'; cases ho'
  rcases hi with ⟨vals, rfl⟩ | ⟨a', b', t', u', v', rfl⟩ | ⟨_, xs, m, e⟩
  ·exact absurd rfl (hd.1 _ _)
  ·exact absurd rfl (hd.2 _)
  ·exact absurd e (hd.1 _ _)
theorem kj {A : Around} {env : Env} {W : Gh} {fr : ag} {Z : St} {s : Shared} {Q : Unit -> Shared -> Prop} {E : Value -> Shared -> Prop} {x : Str} {v : Value} {pv : PV} {k : Nat} {M : Model}
  (T : Gp env ns) (R : dA S W Z s.heap) (F : lT S env W Z.next s.heap) (V : ik env W Z.next s.heap ns fr) (hx : ns[k]? = some x) (hv : VR W Z.next pv v)
  (P : ∀ h' tk, dA S W Z h' -> bE (FX env) W Z.next s.heap W Z.next h' -> lT S env W Z.next h' -> ik env W Z.next h' ns (fr.set k (some pv)) -> Q () { s with heap := h', toks := tk }) :
  wpAny M A (storeName env x v) Q E s := by
 have getSet : ∀ (j : Nat) (y : Str) (pv' : PV), ns[j]? = some y -> (fr.set k (some pv))[j]? = some (some pv') -> (y = x /\ pv' = pv) \/ (y ≠ x /\ fr[j]? = some (some pv')) := by
  intro j y pv' h1 h2
  by_cases q : j = k
  ·subst q
   rw [hx] at h1; cases ej h1
   rw [List.getElem?_set] at h2
   simp only [if_true] at h2
   split at h2
   ·cases ej h2; exact .inl ⟨rfl, rfl⟩
   ·exact bG h2
  ·rw [List.getElem?_set_ne (Ne.symm q)] at h2
   exact .inr ⟨λ z => q (T.inj j k x (z ▸ h1) hx), h2⟩
 refine br F.ns λ m hm => ?_
 refine Aa (id hm) λ oL esL epL hoL hdL _ => ?_
 rcases T.kind k x hx with hl | ⟨hc, c, hcl⟩
 ·refine wpAny_storeName_local hl hm (λ h' hn' hs' => ?_) (by rw [F.kind]; rfl)
  refine bK (R.store F.own F.base (R.noTup hoL (by rw [hdL]; exact ⟨(λ _ _ q => by cases q), (λ _ q => by cases q)⟩)) (λ b o hb e => (hs'.2 b hb).trans e) ((iV hn' λ o _ _ e _ => ⟨o, e⟩))) λ R' t' => ?_
  have cells : ∀ y c v, env.cells.lookup y = some c -> s.heap.IsCell c v -> h'.IsCell c v := λ y c v e hh => Heap.IsCell.at' hh λ o e' => (hs'.2 c (F.cellNe e)).trans e'
  refine P h' _ R' (t'.weaken λ b q => .inl q) ⟨F.kind, F.glob, F.bltn, ⟨_, hn'⟩, F.own, F.base, λ y c e => ?_, F.apart⟩ λ j y pv' h1 h2 => ?_
  ·refine bN (F.cell y c e) λ qq2 n1 n2 => ?_; obtain ⟨v', hv'⟩ := qq2
   exact ⟨⟨v', cells y c v' e hv'⟩, n1, n2⟩
  ·rcases getSet j y pv' h1 h2 with ⟨rfl, rfl⟩ | ⟨hne, h2⟩
   ·exact cC v hv (.inl ⟨hl, _, hn', if_pos rfl⟩)
   ·refine aQ (V j y pv' h1 h2) λ v' hv' hh => ?_
    refine cC v' hv' ?_
    rcases hh with ⟨a, m2, b, e⟩ | ⟨a, c, b, e⟩
    ·refine .inl ⟨a, _, hn', ?_⟩
     show (if y = x then _ else _) = _
     rw [if_neg hne]
     refine kz b λ o2 es2 ep2 ho2 hd2 _ hm2 => ?_
     rw [hoL] at ho2; cases ej ho2
     refine kz hm λ o3 es3 ep3 ho3 hd3 _ hm3 => ?_
     rw [hoL] at ho3; cases ej ho3
     rw [hd2] at hd3; cases hd3
     rw [<- hm3, hm2]; exact e
    ·exact .inr ⟨a, c, b, cells y c _ b e⟩
 ·refine bN (F.cell x c hcl) λ qq3 n1 n2 => ?_; obtain ⟨v0, hv0⟩ := qq3
  refine aQ (id hv0) λ oc hoc hdc => ?_
  refine wpAny_storeName_cell F.kind hc hcl hv0 (λ h' hv' hs' => ?_)
  refine bK (R.store n1 n2 (R.noTup hoc (by rw [hdc]; exact ⟨(λ _ _ q => by cases q), (λ _ q => by cases q)⟩)) (λ b o hb e => (hs'.2 b hb).trans e) ((aQ hv' λ o e _ => ⟨o, e⟩))) λ R' t' => ?_
  have keepL : ∀ o, s.heap.get? env.locals = some o -> h'.get? env.locals = some o := λ o e => (hs'.2 _ (Ne.symm (F.cellNe hcl))).trans e
  have cells : ∀ y c' v, y ≠ x -> env.cells.lookup y = some c' -> s.heap.IsCell c' v -> h'.IsCell c' v := λ y c' v hne e hh =>
   Heap.IsCell.at' hh λ o e' => (hs'.2 c' (λ q => hne (F.apart y x c (q ▸ e) hcl))).trans e'
  refine P h' s.toks R' (t'.weaken λ b q => .inr ⟨x, q ▸ hcl⟩) ⟨F.kind, F.glob, F.bltn, ⟨_, hm.at' keepL⟩, F.own, F.base, λ y c' e => ?_, F.apart⟩ λ j y pv' h1 h2 => ?_
  ·refine bN (F.cell y c' e) λ qq4 n1' n2' => ?_; obtain ⟨v', hv'⟩ := qq4
   by_cases q : y = x
   ·subst q
    rw [hcl] at e; cases ej e
    exact ⟨⟨_, ‹_›⟩, n1, n2⟩
   ·exact ⟨⟨v', cells y c' v' q e hv'⟩, n1', n2'⟩
  ·rcases getSet j y pv' h1 h2 with ⟨rfl, rfl⟩ | ⟨hne, h2⟩
   ·exact cC v hv (.inr ⟨.inl hc, c, hcl, hv'⟩)
   ·refine aQ (V j y pv' h1 h2) λ v' hv' hh => ?_
    refine cC v' hv' ?_
    rcases hh with ⟨a, m2, b, e⟩ | ⟨a, c', b, e⟩
    ·exact .inl ⟨a, m2, b.at' keepL, e⟩
    ·exact .inr ⟨a, c', b, cells y c' _ hne b e⟩
def aF (k : Nat) (a : ag -> M PV) : ag -> M (FR × ag) := λ fr Z => cb (a fr Z) λ v Z1 => some ((.next, fr.set k (some v)), Z1)
theorem aU {x : Str} {p' p : Pos} {e : Expr} {a : ag -> M PV} (k : Nat) (ha : SE S d g ns e a) (hx : ns[k]? = some x := by rfl)
  (hs : ∀ env, swapsWith e (some (.Name x p')) p.line env = pure false := by intro env; rfl) : SS S d g ns (.Assign [.Name x p'] e p) (aF k a) := by
 intro A env W fr Z s Q E f fr' Z' r gl T R F V e P
 refine ba e ?_; clear e; intro v Z1 e1 e
 refine yD e ?_; rintro rfl rfl rfl
 refine wpAny_Assign_Name (ha A env W fr Z s _ E v _ r gl R F V e1 λ W1 vv h1 tk1 R1 t1 x1 => ?_) (hs env)
 refine kj T R1 (F.trans t1) (V.trans F t1) hx x1 λ h2 tk2 R2 t2 F2 V2 => ?_
 exact P W1 .next h2 tk2 R2 (t1.toX.comp t2) F2 V2 trivial
def am (tbl : List (Nat × Nat)) (o v : ag -> M PV) : ag -> M (FR × ag) := λ fr Z => cb (v fr Z) λ x Z1 => cb (o fr Z1) λ y Z2 => match fZ tbl y x Z2 with
 | some Z3 => some ((.next, fr), Z3)
 | none => none
theorem xR {tbl x v Z Z'} (h : fZ tbl x v Z = some Z') : Z'.next = Z.next := by
 unfold fZ at h
 split at h
 ·split at h
  ·split at h
   ·split at h
    ·cases ej h; rfl
    ·split at h
     ·cases ej h; rfl
     ·exact bG h
   ·exact bG h
  ·exact bG h
 ·exact bG h
theorem ar {o e : Expr} {x : Str} {p' p : Pos} {a b : ag -> M PV} (tbl : List (Nat × Nat)) (ht : dp S x tbl) (ho : SE S d g ns o b) (ha : SE S d g ns e a)
  (hs : ∀ env, swapsWith e (some (.Attribute o x p')) p.line env = pure false := by intro env; rfl) : SS S d g ns (.Assign [.Attribute o x p'] e p) (am tbl b a) := by
 intro A env W fr Z s Q E f fr' Z' r gl T R F V e P
 refine ba e ?_; clear e; intro v Z1 e1 e
 refine ba e ?_; clear e; intro y Z2 e2 e
 split at e
 ·rename_i Z3 hp
  refine yD e ?_; rintro rfl rfl rfl
  refine plainObj_wpAny_Assign_Attribute (ha A env W fr Z s _ E v _ r gl R F V e1 λ W1 vv h1 tk1 R1 t1 x1 => ?_) (hs env)
  refine ho A env W1 fr Z1 _ _ E y _ r gl R1 (F.trans t1) (V.trans F t1) e2 λ W2 vo h2 tk2 R2 t2 x2 => ?_
  refine AM ht R2 x2 (t2.vr x1) hp λ h3 tk3 R3 t3 => ?_
  have hn := xR hp
  have t := (t1.comp t2).comp t3
  exact P W2 .next h3 tk3 R3 t.toX (F.trans t) (V.trans F t) trivial
 ·exact bG e
def cJ (a : ag -> M PV) : ag -> M (FR × ag) := λ fr Z => cb (a fr Z) λ v Z1 => some ((.ret v, fr), Z1)
noncomputable def jl : ag -> M (FR × ag) := λ fr Z => some ((.ret .none, fr), Z)
theorem ce {e : Expr} {p : Pos} {a : ag -> M PV} (ha : SE S d g ns e a) : SS S d g ns (.Return (some e) p) (cJ a) := by
 intro A env W fr Z s Q E f fr' Z' r gl T R F V e P
 refine ba e ?_; clear e; intro v Z1 e1 e
 refine yD e ?_; rintro rfl rfl rfl
 exact wpAny_Return_some (ha A env W fr Z s _ E v _ r gl R F V e1 λ W1 vv h1 tk1 R1 t1 x1 => P W1 (.ret vv) h1 tk1 R1 t1.toX (F.trans t1) (V.trans F t1) x1)
theorem oU {p : Pos} : SS S d g ns (.Return none p) jl := by
 intro A env W fr Z s Q E f fr' Z' r gl T R F V e P
 refine yD e ?_; rintro rfl rfl rfl
 exact wpAny_Return_none (P W (.ret .none) s.heap s.toks R .refl F V .none)
def bi (a : ag -> M PV) : ag -> M (FR × ag) := λ fr Z => cb (a fr Z) λ v Z1 => some ((.next, fr), Z1)
theorem bn {e : Expr} {p : Pos} {a : ag -> M PV} (ha : SE S d g ns e a) (hs : ∀ env, swapsWith e none p.line env = pure false := by intro env; rfl) : SS S d g ns (.Expr e p) (bi a) := by
 intro A env W fr Z s Q E f fr' Z' r gl T R F V e P
 refine ba e ?_; clear e; intro v Z1 e1 e
 refine yD e ?_; rintro rfl rfl rfl
 refine wpAny_Expr_any (ha A env W fr Z s _ E v _ r gl R F V e1 λ W1 vv h1 tk1 R1 t1 x1 => P W1 .next h1 tk1 R1 t1.toX (F.trans t1) (V.trans F t1) trivial) ?_ (hs env)
 unfold interactive; rw [F.kind]; rfl
noncomputable def aA : ag -> M (FR × ag) := λ fr Z => some ((.next, fr), Z)
def ai (a b : ag -> M (FR × ag)) : ag -> M (FR × ag) := λ fr Z => cb (a fr Z) λ x Z1 => match x.1 with
 | .next => b x.2 Z1
 | .ret v => some ((.ret v, x.2), Z1)
theorem au : SB S d g ns [] aA := by
 intro A env W fr Z s Q E f fr' Z' r gl T R F V e P
 refine yD e ?_; rintro rfl rfl rfl
 exact wpAny_execs_nil (P W .next s.heap s.toks R .refl F V trivial)
theorem af {st sts a b} (ha : SS S d g ns st a) (hb : SB S d g ns sts b) : SB S d g ns (st :: sts) (ai a b) := by
 intro A env W fr Z s Q E f fr' Z' r gl T R F V e P
 refine eY e ?_; clear e; intro f1 fr1 Z1 e1 e
 refine wpAny_execs_cons (ha A env W fr Z s _ E f1 fr1 Z1 r gl T R F V e1 λ W1 f' h1 tk1 R1 t1 F1 V1 hf => ?_)
 cases f1 with
 | next =>
  cases f' with
  | next => exact hb A env W1 fr1 Z1 _ Q E f fr' Z' r gl T R1 F1 V1 e (P.next t1)
  | _ => exact hf.elim
 | ret v =>
  refine yD e ?_; rintro rfl rfl rfl
  cases f' with
  | ret vv => exact P W1 (.ret vv) h1 tk1 R1 t1 F1 V1 hf
  | _ => exact hf.elim
def cX (c : ag -> M Bool) (a b : ag -> M (FR × ag)) : ag -> M (FR × ag) := λ fr Z => cb (c fr Z) λ x Z1 => if x then a fr Z1 else b fr Z1
theorem bU {c p as bs ec ea eb} (hc : ST S d g ns c ec) (ha : SB S d g ns as ea) (hb : SB S d g ns bs eb) : SS S d g ns (.If c as bs p) (cX ec ea eb) := by
 intro A env W fr Z s Q E f fr' Z' r gl T R F V e P
 refine ba e ?_; clear e; intro x Z1 e1 e
 refine wpAny_If (hc A env W fr Z s _ E x Z1 r gl R F V e1 λ W1 h1 tk1 R1 t1 => ?_)
 cases x with
 | true => exact ha A env W1 fr Z1 _ Q E f fr' Z' r gl T R1 (F.trans t1) (V.trans F t1) e (P.next t1.toX)
 | false => exact hb A env W1 fr Z1 _ Q E f fr' Z' r gl T R1 (F.trans t1) (V.trans F t1) e (P.next t1.toX)
noncomputable def gu (c : ag -> M Bool) (b : ag -> M (FR × ag)) : Nat -> ag -> M (FR × ag)
 | 0, _, _ => none
 | n + 1, fr, Z => cb (c fr Z) λ t Z1 => if t then cb (b fr Z1) λ x Z2 => (match x.1 with
   | .next => gu c b n x.2 Z2
   | .ret v => some ((.ret v, x.2), Z2)) else some ((.next, fr), Z1)
theorem BP {c p bs ec eb} (n : Nat) (hc : ST S d g ns c ec) (hb : SB S d g ns bs eb) : SS S d g ns (.While c bs [] p) (gu ec eb n) := by
 intro A env W fr Z s Q E f fr' Z' r gl T R F V e P
 refine aQ (zk (P := λ k s1 => ∃ W1 fr1 Z1 h1 tk1, s1 = { s with heap := h1, toks := tk1 } /\ dA S W1 Z1 h1 /\ bE (FX env) W Z.next s.heap W1 Z1.next h1 /\ lT S env W1 Z1.next h1 /\ ik env W1 Z1.next h1 ns fr1 /\
  gu ec eb k fr1 Z1 = some ((f, fr'), Z'))) λ Inv mk el => ?_
 refine wpAny_While (codeAny_whileLoop Inv (λ k s1 hI => ?_) n (mk _ _ (EC W fr Z s.heap s.toks rfl R .refl F V e)))
 refine Hn (el _ _ hI) λ W1 fr1 Z1 h1 tk1 qq5 R1 t1 F1 V1 e => ?_; obtain rfl := qq5
 cases k with
 | zero => exact bG e
 | succ k =>
  refine ba e ?_; clear e; intro x Z2 e1 e
  refine hc A env W1 fr1 Z1 _ _ _ x Z2 r gl R1 F1 V1 e1 λ W2 h2 tk2 R2 t2 => ?_
  cases x with
  | true =>
   simp only [if_true] at e |-
   refine eY e ?_; clear e; intro f3 fr3 Z3 e3 e
   refine hb A env W2 fr1 Z2 _ _ _ f3 fr3 Z3 r gl T R2 (F1.trans t2) (V1.trans F1 t2) e3 λ W3 f' h3 tk3 R3 t3 F3 V3 hf => ?_
   have t := (t1.comp t2.toX).comp t3
   cases f3 with
   | next =>
    cases f' with
    | next => exact ⟨k, Nat.lt_succ_self k, mk _ _ (EC W3 fr3 Z3 h3 tk3 rfl R3 t F3 V3 e)⟩
    | _ => exact hf.elim
   | ret v =>
    refine yD e ?_; rintro rfl rfl rfl
    cases f' with
    | ret vv => exact P W3 (.ret vv) h3 tk3 R3 t F3 V3 hf
    | _ => exact hf.elim
  | false =>
   simp only [Bool.false_eq_true, if_false] at e |-
   refine yD e ?_; rintro rfl rfl rfl
   exact wpAny_execs_nil (P W2 .next h2 tk2 R2 (t1.comp t2.toX) (F1.trans t2) (V1.trans F1 t2) trivial)
end
section
variable {S : eP}
variable {d : Nat} {g : Gn} {ns : List Str}
def Ha (S : eP) (W : Gh) (n : Nat) (s : Shared) (pv : PV) (Z' : St) (R : Result -> Shared -> Prop) : Prop :=
 ∀ W' v h' tk, dA S W' Z' h' -> bE lO W n s.heap W' Z'.next h' -> VR W' Z'.next pv v -> R (.ok (.ret v)) { s with heap := h', toks := tk }
def cU (S : eP) (d : Nat) (fv : Value) (F : List PV -> M PV) : Prop :=
 ∀ (A : Around) (W : Gh) (Z : St) (s : Shared) (R : Result -> Shared -> Prop) (pvs : List PV) (vals : List Value) (pv : PV) (Z' : St),
  gF d A -> dA S W Z s.heap -> fy W Z.next pvs vals -> F pvs Z = some (pv, Z') -> Ha S W Z.next s pv Z' R -> codeAny (model S.prog S.w) A (.call fv ⟨vals, []⟩) R s
theorem cU.le {d d' : Nat} {fv F} (h : cU S d fv F) (hd : d <= d') : cU S d' fv F := λ A W Z s R pvs vals pv Z' r => h A W Z s R pvs vals pv Z' (r.le hd)
def bg (np k : Nat) (b : ag -> M (FR × ag)) : List PV -> M PV := λ pvs Z => if pvs.length = np then cb (b (pvs.map some ++ List.replicate k none) Z) λ x Z1 => match x.1 with
  | .ret v => some (v, Z1)
  | .next => some (.none, Z1) else none
theorem bE.hide {X : Addr -> Prop} {W W1 W' : Gh} {n n1 n' : Nat} {h h1 h' : Heap} (t : bE lO W n h W1 n1 h1) (u : bE X W1 n1 h1 W' n' h') (hX : ∀ b o, h.get? b = some o -> ¬ X b) : bE lO W n h W' n' h' where
 nx := Nat.le_trans t.nx u.nx
 ad i hi := (u.ad i (Nat.lt_of_lt_of_le hi t.nx)).trans (t.ad i hi)
 T a v e := u.T a v (t.T a v e)
 fz i hi e := u.fz i (Nat.lt_of_lt_of_le hi t.nx) (t.fz i hi e)
 ext b o e n1 _ := u.ext b o (t.ext b o e n1 (λ q => q)) (λ q => n1 (t.own_back e q)) (hX b o e)
 dom b o e := let ⟨_, e'⟩ := t.dom b o e; u.dom b _ e'
 new := ((t.toX (X := X)).comp u).new
 Tn := ((t.toX (X := X)).comp u).Tn
theorem w6 (kindOf : Str -> Option NameKind) (x : Str) (v : Value) : ∀ (l : List (Str × Value)) (m cm : Str -> Option Value), (∀ (j k : Nat) (p q : Str × Value), l[j]? = some p -> l[k]? = some q -> p.1 = q.1 -> j = k) -> (x, v) ∈ l ->
  (kindOf x = some .local -> bindL kindOf l m x = some v) /\ (kindOf x ≠ some .local -> bindC kindOf l cm x = some v) := by
 have keep : ∀ (l : List (Str × Value)) (m cm : Str -> Option Value), (∀ p ∈ l, p.1 ≠ x) -> bindL kindOf l m x = m x /\ bindC kindOf l cm x = cm x := by
  intro l
  induction l with
  | nil => intro m cm _; exact ⟨rfl, rfl⟩
  | cons p r ih =>
   obtain ⟨y, w⟩ := p
   intro m cm hne
   have h1 : y ≠ x := hne (y, w) (.head _)
   have h2 := λ m' cm' => ih m' cm' λ q hq => hne q (.tail _ hq)
   unfold bindL bindC
   rw [(h2 _ cm).1, (h2 m _).2]
   constructor
   ·split
    ·show (if x = y then _ else _) = _
     rw [if_neg (Ne.symm h1)]
    ·rfl
   ·split
    ·rfl
    ·show (if x = y then _ else _) = _
     rw [if_neg (Ne.symm h1)]
 intro l
 induction l with
 | nil => intro m cm _ h; cases h
 | cons p r ih =>
  intro m cm hnd hm
  have hr : ∀ (j k : Nat) (p q : Str × Value), r[j]? = some p -> r[k]? = some q -> p.1 = q.1 -> j = k := λ j k p q h1 h2 h3 => by
   have := hnd (j + 1) (k + 1) p q (by simpa using h1) (by simpa using h2) h3
   lia
  rcases List.mem_cons.mp hm with e | hm2
  ·subst e
   have hne : ∀ q ∈ r, q.1 ≠ x := λ q hq z => by
    obtain ⟨j, hj⟩ := List.mem_iff_getElem?.mp hq
    have := hnd 0 (j + 1) (x, v) q rfl (by simpa using hj) z.symm
    contradiction
   unfold bindL bindC
   constructor
   ·intro hl
    rw [(keep r _ cm hne).1, if_pos hl]; exact if_pos rfl
   ·intro hl
    rw [(keep r m _ hne).2, if_neg hl]; exact if_pos rfl
  ·obtain ⟨y, w⟩ := p
   unfold bindL bindC
   exact ⟨λ hl => (ih _ cm hr hm2).1 hl, λ hl => (ih m _ hr hm2).2 hl⟩
theorem gF.deeper {A : Around} {env : Env} (r : gF (d + 1) A) : gF d (A.deeper env) :=
 ⟨r.handled, by have := r.depth; show A.depth + 1 + d < 690; lia, by have := r.units; show A.units + 3 + 8 * d + 100 < 9900; lia⟩
theorem gF.lt {A : Around} (r : gF d A) : A.depth < recursionLimit := by have := r.depth; show A.depth < 1000; lia
structure HA (S : eP) (f : Addr) (np : Nat) (ns : List Str) (body : List Stmt) (scope : Scope) : Prop where
 ex : ∃ nm qual params doc pm an cdv ct oc od osl, S.K.lookup f = some ⟨oc, od, .func (fnOf nm qual params body scope .none .none doc pm an cdv ct), osl⟩ /\ codeIn S.K cdv qual = true /\
  (∀ vals, vals.length = np -> bindArgs (fnOf nm qual params body scope .none .none doc pm an cdv ct) ⟨vals, []⟩ = pure ((ns.take np).zip vals))
noncomputable def oF (scope : Scope) (g : Gn) (ns : List Str) : Bool :=
 ns.all (λ x => scope.names.lookup x == some .local || scope.names.lookup x == some .cell) && g.glob.all (λ x => scope.names.lookup x == some .globalImplicit) && g.cell.all (λ x => scope.names.lookup x == some .cell) && decide ns.Nodup &&
 !scope.isCoroutine && !scope.isGenerator && (scope.kind == .function)
theorem Ek {np k : Nat} {ns : List Str} {body : List Stmt} {scope : Scope} {f : Addr} {b : ag -> M (FR × ag)} (H : HA S f np ns body scope) (hok : oF scope g ns = true) (hb : SB S d g ns body b) :
  cU S (d + 1) (.ref f) (bg np k b) := by
 intro A W Z s R pvs vals pv Z' r R0 hv e P
 unfold bg at e
 split at e
 case isFalse => exact bG e
 rename_i hlen
 refine eY e ?_; clear e; intro fl fr' Z1 e1 e
 obtain ⟨nm, qual, params, doc, pm, an, cdv, ct, oc, od, osl, look, hcd, hbind⟩ := H.ex
 simp only [oF, Bool.and_eq_true, Bool.not_eq_true', decide_eq_true_eq, List.all_eq_true, Bool.or_eq_true, beq_iff_eq] at hok
 refine bK hok λ qq1 hkf => ?_; obtain ⟨⟨⟨⟨⟨hl, hg⟩, hgc⟩, hnd⟩, hco⟩, hgen⟩ := qq1
 have hinj : ∀ (j k : Nat) (x : Str), ns[j]? = some x -> ns[k]? = some x -> j = k := λ j k x h1 h2 => by
  have hj : j < ns.length := (List.getElem?_eq_some_iff.mp h1).1
  exact (List.getElem?_inj hj hnd).mp (h1.trans h2.symm)
 have hvl : vals.length = np := hv.1.symm.trans hlen
 have hz : ∀ (j : Nat) (p : Str × Value), ((ns.take np).zip vals)[j]? = some p -> ns[j]? = some p.1 /\ vals[j]? = some p.2 := by
  intro j p h
  rw [List.getElem?_zip_eq_some] at h
  refine ⟨?_, h.2⟩
  have h1 := h.1
  rw [List.getElem?_take] at h1
  split at h1
  ·exact h1
  ·exact bG h1
 refine codeAny_call_cells (fd := fnOf nm qual params body scope .none .none doc pm an cdv ct) (body := body) r.lt ((S.X.keeps R0.base) _ _ look) rfl (S.T.nolimit.keeps R0.base) (codeRec_of (S.X.keeps R0.base) hcd) rfl (hbind vals hvl) rfl (λ x hx => ?_) (λ s₁ C => ?_) hco hgen hkf
 ·refine br (List.mem_iff_getElem?.mp hx) λ j hj => ?_
  rcases hl x.1 (List.mem_of_getElem? (hz j x hj).1) with q | q
  ·exact .inl q
  ·exact .inr ⟨q, cellsFrom_some _ _ _ (.inl q)⟩
 refine jn C.done λ h₁ tk qq2 keep => ?_; obtain rfl := qq2
 refine bK (R0.keep keep) λ R1 t1 => ?_
 generalize henv : callEnvC (fnOf nm qual params body scope .none .none doc pm an cdv ct) s.heap.objs.size f = env at C |-; revert env; refine qQ ?_; intro env henv C
 have hsc : env.scope = scope := by rw [<- henv]; rfl
 have hloc : env.locals = s.heap.objs.size := by rw [<- henv]; rfl
 have hko : ∀ x, env.kindOf x = scope.names.lookup x := λ x => by rw [<- henv]; rfl
 have hcel : env.cells = cellsFrom (s.heap.objs.size + 1) scope.names [] := by rw [<- henv]; rfl
 have new : ∀ b, s.heap.objs.size <= b -> s.heap.get? b = none := λ b hb => Heap.get?_none_of_le hb
 have newOwn : ∀ b, s.heap.objs.size <= b -> ¬ Ac W Z.next b := λ b hb q => by refine br (R0.allSome q) λ o ho => ?_; rw [new b hb] at ho; exact bG ho
 have newBase : ∀ b, s.heap.objs.size <= b -> S.h₀.get? b = none := λ b hb => by
  cases q : S.h₀.get? b with
  | none => rfl
  | some o => have := R0.base b o q; rw [new b hb] at this; exact bG this
 have hcl : ∀ x c, env.cells.lookup x = some c -> s.heap.objs.size < c := λ x c h => by
  have := C.above x c (mem_of_lookup h); rw [hloc] at this; exact this
 have F1 : lT S env W Z.next h₁ := ⟨by rw [hsc]; exact hkf, by rw [<- henv]; rfl, by rw [<- henv]; rfl, ⟨_, C.toInCall.ns⟩, newOwn _ (by rw [hloc]; exact Nat.le_refl _), newBase _ (by rw [hloc]; exact Nat.le_refl _),
  λ x c h => ⟨⟨_, C.cell x c h⟩, newOwn _ (Nat.le_of_lt (hcl x c h)), newBase _ (Nat.le_of_lt (hcl x c h))⟩,
  λ x y c h1 h2 => name_of_addr C.apart (mem_of_lookup h1) (mem_of_lookup h2)⟩
 have V1 : ik env W Z.next h₁ ns (pvs.map some ++ List.replicate k none) := by
  intro j x pv' hj hp
  rcases Nat.lt_or_ge j pvs.length with q | q
  ·rw [List.getElem?_append_left (by simpa using q)] at hp
   rw [List.getElem?_map] at hp
   refine aQ (Option.map_eq_some_iff.mp hp) λ pv2 hp2 e2 => ?_
   cases ej e2
   refine aQ (hv.get hp2) λ v hv1 hv2 => ?_
   refine ⟨v, hv2, ?_⟩
   have hm : (x, v) ∈ (ns.take np).zip vals := by
    refine List.mem_of_getElem? (i := j) ?_
    rw [List.getElem?_zip_eq_some, List.getElem?_take, if_pos (by lia)]
    exact ⟨hj, hv1⟩
   have B := w6 env.kindOf x v ((ns.take np).zip vals) (λ _ => none) (λ _ => none) (λ j k p q h1 h2 h3 => hinj j k p.1 (hz j p h1).1 (h3 ▸ (hz k q h2).1)) hm
   rcases hl x (List.mem_of_getElem? hj) with q | q
   ·have hq : env.kindOf x = some .local := (hko x).trans q
    exact .inl ⟨hq, _, C.toInCall.ns, B.1 hq⟩
   ·have hq : env.kindOf x = some .cell := (hko x).trans q
    refine br (Option.isSome_iff_exists.mp (cellsFrom_some (x := x) scope.names (s.heap.objs.size + 1) [] (.inl q))) λ c hc => ?_
    rw [<- hcel] at hc
    refine .inr ⟨.inl hq, c, hc, ?_⟩
    rw [<- B.2 (by rw [hq]; decide)]
    exact C.cell x c hc
  ·rw [List.getElem?_append_right (by simpa using q)] at hp
   have := List.eq_of_mem_replicate (List.mem_of_getElem? hp)
   cases this
 have T1 : Gp env ns := ⟨hinj, λ j x hj => by
  rcases hl x (List.mem_of_getElem? hj) with q | q
  ·exact .inl ((hko x).trans q)
  ·refine br (Option.isSome_iff_exists.mp (cellsFrom_some (x := x) scope.names (s.heap.objs.size + 1) [] (.inl q))) λ c hc => ?_
   exact .inr ⟨(hko x).trans q, c, hcel ▸ hc⟩⟩
 have G1 : GL g env := ⟨λ x hx => (hko x).trans (hg x hx), λ x hx => by
  refine br (Option.isSome_iff_exists.mp (cellsFrom_some (x := x) scope.names (s.heap.objs.size + 1) [] (.inl (hgc x hx)))) λ c hc => ?_
  exact ⟨(hko x).trans (hgc x hx), c, hcel ▸ hc⟩⟩
 refine hb (A.deeper env) env W _ Z _ _ _ fl fr' Z1 r.deeper G1 T1 R1 F1 V1 e1 λ W2 f' h2 tk2 R2 t2 F2 V2 hf => ?_
 have t : bE lO W Z.next s.heap W2 Z1.next h2 := t1.hide t2 λ b o hbo hx => by
  have hlt := Heap.lt_size hbo
  rcases hx with q | ⟨x, q⟩
  ·rw [hloc] at q; exact Nat.lt_irrefl _ (q ▸ hlt)
  ·exact Nat.lt_asymm hlt (hcl x b q)
 cases fl with
 | next =>
  refine gx e ?_; rintro rfl rfl
  cases f' with
  | next => exact P W2 .none h2 tk2 R2 t .none
  | _ => exact hf.elim
 | ret v =>
  refine gx e ?_; rintro rfl rfl
  cases f' with
  | ret vv => exact P W2 vv h2 tk2 R2 t hf
  | _ => exact hf.elim
def kU (c : Nat) (Fi : List PV -> M PV) : List PV -> M PV := λ pvs Z => cb (Fi (.ref Z.next :: pvs) (Z.push (.inst c []))) λ v Z1 => match v with
 | .none => some (.ref Z.next, Z1)
 | _ => none
theorem gF.make {A : Around} {C : Addr} {vals : List Value} (r : gF (d + 1) A) : gF d (A.under (.builtin "type.__call__" ⟨.ref C :: vals, []⟩)) :=
 ⟨r.handled, by have := r.depth; rw [depth_under_make]; lia, by
  have := r.units
  show A.units + 1 + 8 * d + 100 < 9900
  lia⟩
theorem j7 {c : Nat} {fI : Addr} {Fi : List PV -> M PV} (hm : makesIn S.K (S.cadr c) = true) (hi : findIn S.K (.ref (S.cadr c)) "__init__" = some (some (.ref fI))) (hf : typeIn S.K (.ref fI) = some (.type "function"))
  (hF : cU S d (.ref fI) Fi) : cU S (d + 1) (.ref (S.cadr c)) (kU c Fi) := by
 intro A W Z s R pvs vals pv Z' r R0 hv e P
 refine ba e ?_; clear e; intro v Z1 e1 e
 split at e
 case h_2 => cases e
 cases e
 obtain ⟨hh, gg, dd, t, os⟩ := s
 have X := S.X.keeps R0.base
 have n1 : hh.get? (hh.objs.size + 1) = none := Heap.get?_none_of_le (Nat.le_succ _)
 have n2 : hh.get? hh.objs.size = none := Heap.get?_none_of_le (Nat.le_refl _)
 have k : ∀ b o, hh.get? b = some o -> ((hh.push emptyDict).push (instObj (S.cadr c) hh.objs.size)).get? b = some o := λ b o e => Heap.get?_push_of_some _ (Heap.get?_push_of_some _ e)
 have hd : ((hh.push emptyDict).push (instObj (S.cadr c) hh.objs.size)).get? hh.objs.size = some emptyDict := Heap.get?_push_of_some _ (Heap.get?_push_size _ rfl)
 have hx : ((hh.push emptyDict).push (instObj (S.cadr c) hh.objs.size)).get? (hh.objs.size + 1) = some (instObj (S.cadr c) hh.objs.size) := by
  have := Heap.get?_push_size (hh.push emptyDict) (o := instObj (S.cadr c) hh.objs.size) rfl
  rwa [Heap.size_push] at this
 obtain ⟨R1, t1⟩ := R0.alloc (h' := (hh.push emptyDict).push (instObj (S.cadr c) hh.objs.size)) k (p := (hh.objs.size + 1, hh.objs.size)) (o' := .inst c []) (Nat.le_succ _) (Nat.le_refl _)
  ⟨Nat.succ_ne_self _, hx, λ _ => none, ⟨_, #[], 0, hd, rfl, (λ _ h => by simp at h), λ _ => rfl⟩, (λ j x pv' _ h => by simp at h), (λ _ _ => rfl), (λ o es ep ho hdd => by rw [hd] at ho; cases ho; cases hdd; exact Nat.le_refl _), by simp⟩
 refine make_core (makes_of X hm) (looks_findIn X hi) (λ self => bind_fn X self hf) (.inl rfl) ?_
 have hvr : VR (W.add Z.next (hh.objs.size + 1, hh.objs.size)) (Z.next + 1) (.ref Z.next) (.ref (hh.objs.size + 1)) := by
  have := VR.ref (W := W.add Z.next (hh.objs.size + 1, hh.objs.size)) (n := Z.next + 1) Z.next (Nat.lt_succ_self _)
  rwa [show ((W.add Z.next (hh.objs.size + 1, hh.objs.size)).ad Z.next) = (hh.objs.size + 1, hh.objs.size) from if_pos rfl] at this
 refine hF _ _ (Z.push (.inst c [])) _ _ (.ref Z.next :: pvs) _ .none Z' r.make R1 (.cons hvr (t1.vrs hv)) e1 λ W2 v2 h2 tk2 R2 t2 x2 => ?_
 cases x2
 refine ⟨rfl, ?_⟩
 exact P W2 _ h2 tk2 R2 (t1.comp t2) (t2.vr hvr)
noncomputable def aj : ag -> M (List PV) := λ _ Z => some ([], Z)
def ac (a : ag -> M PV) (b : ag -> M (List PV)) : ag -> M (List PV) := λ fr Z => cb (a fr Z) λ x Z1 => cb (b fr Z1) λ xs Z2 => some (x :: xs, Z2)
theorem al : Ev S d g ns [] aj := by
 intro A env W fr Z s Q E pv Z' pos r gl R F V e P
 refine gx e ?_; rintro rfl rfl
 exact spliced_nil (P W [] s.heap s.toks R .refl .nil)
theorem ae {e : Expr} {es : List Expr} {a b} (ha : SE S d g ns e a) (hb : Ev S d g ns es b) (hst : ∀ env, starEach (e :: es) env = (false, eval e env) :: starEach es env := by intro env; rfl) : Ev S d g ns (e :: es) (ac a b) := by
 intro A env W fr Z s Q E pv Z' pos r gl R F V e P
 refine ba e ?_; clear e; intro x Z1 e1 e
 refine ba e ?_; clear e; intro xs Z2 e2 e
 refine gx e ?_; rintro rfl rfl
 rw [hst env]
 show wpAny _ _ (spliced ((false, eval _ env) :: backTo pos (starEach es env))) _ _ _
 refine spliced_cons (ha A env W fr Z s _ E x _ r gl R F V e1 λ W1 v h1 tk1 R1 t1 x1 => ?_)
 refine hb A env W1 fr Z1 _ _ E xs _ pos r gl R1 (F.trans t1) (V.trans F t1) e2 λ W2 vs h2 tk2 R2 t2 x2 => ?_
 exact P W2 (v :: vs) h2 tk2 R2 (t1.comp t2) (.cons (t2.vr x1) x2)
theorem u7 {A : Around} {env : Env} {W : Gh} {Z : St} {s : Shared} {Q : Value -> Shared -> Prop} {E : Value -> Shared -> Prop} {x : Str} {p : Pos} {v : Value} {M : Model} (hx : x ∈ g.glob) (gl : GL g env) (R : dA S W Z s.heap) (F : lT S env W Z.next s.heap)
  (hglob : nsIn S.K mainGlobals x = some (some v)) (hb : fO x = false) (q : Q v s) : wpAny M A (eval (.Name x p) env) Q E s := by
 unfold fO at hb
 rw [Bool.or_eq_false_iff] at hb
 exact Name_function_global F.kind (gl.glob x hx) (loadGlobal_global (env := env) (by rw [F.glob]; exact S.T.g.keeps R.base) (mg_of S.X S.T.g hglob) q) hb.1
theorem uW {A : Around} {env : Env} {W : Gh} {Z : St} {s : Shared} {Q : Value -> Shared -> Prop} {E : Value -> Shared -> Prop} {x : Str} {p : Pos} {v : Value} {M : Model} (hx : x ∈ g.glob) (gl : GL g env) (R : dA S W Z s.heap) (F : lT S env W Z.next s.heap)
  (hglob : nsIn S.K mainGlobals x = some none) (hv : bootBuiltins x = some v) (hn : x ≠ "__name__") (hb : fO x = false) (q : Q v s) : wpAny M A (eval (.Name x p) env) Q E s := by
 unfold fO at hb
 rw [Bool.or_eq_false_iff] at hb
 exact Name_function_global F.kind (gl.glob x hx) (loadGlobal_builtin (env := env) (by rw [F.glob]; exact S.T.g.keeps R.base) (mg_none_of S.X S.T.g hglob) (by rw [F.bltn]; exact S.T.b.keeps R.base) ((S.T.builtins x hn).trans hv) q) hb.1
def ap (F : List PV -> M PV) (m : ag -> M (List PV)) : ag -> M PV := λ fr Z => cb (m fr Z) λ vs Z1 => F vs Z1
structure hK (S : eP) (d : Nat) (x : Str) (F : List PV -> M PV) : Prop where
 ex : ∃ fv, nsIn S.K mainGlobals x = some (some fv) /\ keepIn S.K fv = true /\ cU S d fv F
theorem aE {x : Str} {p pos : Pos} {e : Expr} {es : List Expr} {m : ag -> M (List PV)} {F : List PV -> M PV} {d' : Nat} (H : hK S d' x F) (hx : x ∈ g.glob) (hm : Ev S d g ns (e :: es) m) (hd : d' <= d := by omega) (hb : fO x = false := by decide +kernel)
  (he : ∀ env, starEach (e :: es) env = (false, eval e env) :: starEach es env := by intro env; rfl) (hplain : ∀ env, (backTo pos (starEach es env)).any (·.1) = false := by intro env; rfl) :
  SE S d g ns (.Call (.Name x p) (e :: es) [] pos) (ap F m) := by
 intro A env W fr Z s Q E pv Z' r gl R Fm V e P
 refine ba e ?_; clear e; intro vs Z1 e1 e
 refine cj H.ex λ fv h1 h2 h3 => ?_
 refine Call_Name rfl (u7 hx gl R Fm h1 hb ?_)
 refine callWith_K S.X h2 (hm A env W fr Z s _ E vs Z1 pos r gl R Fm V e1 λ W1 vals h1 tk1 R1 t1 x1 => ⟨S.X.keeps R1.base, ?_⟩) (he env) (hplain env)
 exact wpAny_call (h3 A W1 Z1 _ _ vs vals pv Z' (r.le hd) R1 x1 e λ W2 v h2 tk2 R2 t2 x2 => P W2 v h2 tk2 R2 (t1.comp t2) x2)
theorem BE {x : Str} {p pos : Pos} {F : List PV -> M PV} {d' : Nat} (H : hK S d' x F) (hx : x ∈ g.glob) (hd : d' <= d := by omega) (hb : fO x = false := by decide +kernel) :
  SE S d g ns (.Call (.Name x p) [] [] pos) (ap F aj) := by
 intro A env W fr Z s Q E pv Z' r gl R Fm V e P
 refine ba e ?_; clear e; intro vs Z1 e1 e
 refine gx e1 ?_; rintro rfl rfl
 refine cj H.ex λ fv h1 h2 h3 => ?_
 refine Call_Name rfl (u7 hx gl R Fm h1 hb ?_)
 refine callWith_K0 (S.X.keeps R.base) h2 ?_
 exact wpAny_call (h3 A W Z s _ [] [] pv Z' (r.le hd) R .nil e λ W2 v h2 tk2 R2 t2 x2 => P W2 v h2 tk2 R2 t2 x2)
noncomputable def zT : ag -> M (FR × ag) := λ _ _ => none
theorem zR {e : Stmt} : SS S d g ns e zT := by
 intro A env W fr Z s Q E f fr' Z' r gl T R F V e P; exact bG e
end
section
variable {S : eP}
variable {d : Nat} {g : Gn} {ns : List Str}
theorem fy.toL {W : Gh} {n : Nat} {vs : List PV} {vals : List Value} (h : fy W n vs vals) : fy W n vs vals.toArray.toList := by simpa using h
theorem dA.newList {W : Gh} {Z : St} {h h' : Heap} (R : dA S W Z h) {a : Addr} {vs : List PV} {vals : List Value} (hk : ∀ b o, h.get? b = some o -> h'.get? b = some o) (ha : h.objs.size <= a) (hl : h'.PlainList a vals.toArray)
  (hv : fy W Z.next vs vals) (hz : vs.length <= 1000) : dA S (W.add Z.next (a, a)) (Z.push (.list vs)) h' /\ bE lO W Z.next h (W.add Z.next (a, a)) (Z.next + 1) h' /\ VR (W.add Z.next (a, a)) (Z.next + 1) (.ref Z.next) (.ref a) := by
 have had : ∀ j, j < Z.next -> (W.add Z.next (a, a)).ad j = W.ad j := λ j hj => if_neg (Nat.ne_of_lt hj)
 refine bK (R.alloc hk (p := (a, a)) (o' := .list vs) ha ha ⟨rfl, _, hl, (hv.mono (Nat.le_succ _) had λ _ _ e => e).toL, hz⟩) λ R' t' => ?_
 refine ⟨R', t', ?_⟩
 have := VR.ref (W := W.add Z.next (a, a)) (n := Z.next + 1) Z.next (Nat.lt_succ_self _)
 rwa [show (W.add Z.next (a, a)).ad Z.next = (a, a) from if_pos rfl] at this
theorem dA.newDict {W : Gh} {Z : St} {h h' : Heap} (R : dA S W Z h) {a : Addr} (hk : ∀ b o, h.get? b = some o -> h'.get? b = some o) (ha : h.objs.size <= a) (hl : h'.DictOf (intKind S.prog S.w) a []) :
  dA S (W.add Z.next (a, a)) (Z.push (.dict [])) h' /\ bE lO W Z.next h (W.add Z.next (a, a)) (Z.next + 1) h' /\ VR (W.add Z.next (a, a)) (Z.next + 1) (.ref Z.next) (.ref a) := by
 refine bK (R.alloc hk (p := (a, a)) (o' := .dict []) ha ha ⟨rfl, [], hl, rfl, .nil, by simp⟩) λ R' t' => ?_
 refine ⟨R', t', ?_⟩
 have := VR.ref (W := W.add Z.next (a, a)) (n := Z.next + 1) Z.next (Nat.lt_succ_self _)
 rwa [show (W.add Z.next (a, a)).ad Z.next = (a, a) from if_pos rfl] at this
def nP (vs : List PV) (Z : St) : Option (PV × St) := if vs.length <= 1000 then some (.ref Z.next, Z.push (.list vs)) else none
def cQ (m : ag -> M (List PV)) : ag -> M PV := λ fr Z => cb (m fr Z) λ vs Z1 => nP vs Z1
theorem ic {vs : List PV} {Z Z' : St} {pv : PV} (h : nP vs Z = some (pv, Z')) : vs.length <= 1000 /\ pv = .ref Z.next /\ Z' = Z.push (.list vs) := by
 unfold nP at h
 split at h
 ·refine gx h ?_; rintro rfl rfl; exact ⟨‹_›, rfl, rfl⟩
 ·exact bG h
theorem dP {es : List Expr} {p : Pos} {m : ag -> M (List PV)} (hm : Ev S d g ns es m) : SE S d g ns (.List es p) (cQ m) := by
 intro A env W fr Z s Q E pv Z' r gl R F V e P
 refine ba e ?_; clear e; intro vs Z1 e1 e
 refine bN (ic e) λ hz qq1 qq2 => ?_; obtain rfl := qq1; obtain rfl := qq2
 refine List_ (hm A env W fr Z s _ E vs Z1 p r gl R F V e1 λ W1 vals h1 tk1 R1 t1 x1 => ?_)
 have hlen := x1.1
 refine wpAny_newObj_type ?_ (by show vals.toArray.size <= sizeLine; rw [List.size_toArray, sizeLine_eq]; lia)
 refine bN (R1.newList (λ b o e => Heap.get?_push_of_some _ e) (Nat.le_refl _) ⟨0, Heap.get?_push_size _ rfl⟩ x1 hz) λ R2 t2 x2 => ?_
 exact P _ _ _ tk1 R2 (t1.comp t2) x2
def fS (m : ag -> M (List PV)) : ag -> M PV := λ fr Z => cb (m fr Z) λ vs Z1 => if vs.length <= 1000 then some (.tup vs, Z1) else none
theorem gt {es : List Expr} {k : Nat} {p : Pos} {m : ag -> M (List PV)} (hm : Ev S d g ns es m) : SE S d g ns (.Tuple es k p) (fS m) := by
 intro A env W fr Z s Q E pv Z' r gl R F V e P
 refine ba e ?_; clear e; intro vs Z1 e1 e
 split at e
 case isFalse => exact bG e
 rename_i hz
 refine gx e ?_; rintro rfl rfl
 refine Tuple_ (hm A env W fr Z s _ E vs _ p r gl R F V e1 λ W1 vals h1 tk1 R1 t1 x1 => ?_)
 have hlen := x1.1
 refine wpAny_newObj_type ?_ (by show vals.toArray.size <= sizeLine; rw [List.size_toArray, sizeLine_eq]; lia)
 refine bK (R1.tuple (o := Gc vals) (λ b o e => Heap.get?_push_of_some _ e) (Heap.get?_none_of_le (Nat.le_refl _)) (Heap.get?_push_size h1 rfl) (.inl ⟨_, rfl⟩)) λ R2 t2 => ?_
 refine P _ _ _ tk1 R2 (t1.comp t2) (.tup vs vals _ ?_ hlen λ k pv v a b => t2.vr (x1.2 k pv v a b))
 exact if_pos rfl
def pU : ag -> M PV := λ fr Z => some (.ref Z.next, Z.push (.dict []))
theorem oV {p : Pos} : SE S d g ns (.Dict [] [] p) pU := by
 intro A env W fr Z s Q E pv Z' r gl R F V e P
 refine gx e ?_; rintro rfl rfl
 refine wpAny_Dict_empty ?_
 refine bN (R.newDict (λ b o e => Heap.get?_push_of_some _ e) (Nat.le_refl _) (Heap.DictOf.new s.heap)) λ R2 t2 x2 => ?_
 exact P _ _ _ s.toks R2 t2 x2
noncomputable def gL (es : List (Int × PV)) (k : Int) : Option PV := (es.find? λ kv => kv.1 = k).map (·.2)
def kT (x y : PV) (Z : St) : Option PV := match x, y with
 | .ref i, .int k => (match Z.objs i with
  | .list vs => if 0 <= k then vs[k.toNat]? else none
  | .dict es => gL es k
  | .fdict es => gL es k
  | _ => none)
 | .tup vs, .int k => if 0 <= k /\ k < 1000 then vs[k.toNat]? else none
 | _, _ => none
theorem oR {W : Gh} {n : Nat} : ∀ {es : List (Int × PV)} {kvs : List (Int × Value)}, es.map (·.1) = kvs.map (·.1) -> fy W n (es.map (·.2)) (kvs.map (·.2)) -> ∀ {k : Int} {pv : PV}, gL es k = some pv -> ∃ v, valueAt kvs k = some v /\ VR W n pv v := by
 intro es
 induction es with
 | nil => intro kvs _ _ k pv h; exact bG h
 | cons e es ih =>
  intro kvs h1 h2 k pv h
  cases kvs with
  | nil => cases h1
  | cons kv kvs =>
   simp only [List.map_cons, List.cons.injEq] at h1
   have h3 : VR W n e.2 kv.2 := h2.2 0 _ _ rfl rfl
   have h4 : fy W n (es.map (·.2)) (kvs.map (·.2)) := ⟨by have := h2.1; simpa using this, λ j a b p q => h2.2 (j + 1) a b (by simpa using p) (by simpa using q)⟩
   unfold gL at h
   unfold valueAt
   rw [List.find?_cons] at h |-
   by_cases q : e.1 = k
   ·have q' : kv.1 = k := h1.1 ▸ q
    simp only [q, decide_true] at h
    simp only [q', decide_true]
    cases ej h
    exact ⟨_, rfl, h3⟩
   ·have q' : ¬ kv.1 = k := h1.1 ▸ q
    simp only [q, decide_false] at h
    simp only [q', decide_false]
    exact ih h1.2 h4 h
theorem Av {A : Around} {W : Gh} {Z : St} {s : Shared} {Q : Value -> Shared -> Prop} {E : Value -> Shared -> Prop} {x y pv : PV} {vx vy : Value} {value slice : Expr} (R : dA S W Z s.heap) (hx : VR W Z.next x vx) (hy : VR W Z.next y vy)
  (h : kT x y Z = some pv) (P : jS S W Z.next s pv Z Q) (hs : ∀ o i, subscripted slice false o i = operate [o, i] (getItem o i)) : wpAny (model S.prog S.w) A (subscriptTail value slice vx vy) Q E s := by
 unfold kT at h
 split at h
 ·rename_i i k
  cases hy with
  | int k t =>
  cases hx with
  | ref i hi =>
  have O := R.obj i hi
  split at h
  ·rename_i vs ho
   rw [ho] at O
   obtain ⟨_, vals, hl, hv, hz⟩ := O
   split at h
   ·rename_i h0
    obtain ⟨v, h1, h2⟩ := hv.get h
    have hk : k.toNat < vs.length := (List.getElem?_eq_some_iff.mp h).1
    refine tail_any hl.isList.typeIs slot_list_getitem.lookup (wpAny_getItem_list hl.isList h0 (by lia) (by rw [<- Array.getElem?_toList]; exact h1) ?_) (hs _ _)
    exact P W v s.heap s.toks R .refl h2
   ·exact bG h
  ·rename_i es ho
   rw [ho] at O
   obtain ⟨_, kvs, hl, hkeys, hv, hz⟩ := O
   obtain ⟨v, h1, h2⟩ := oR hkeys hv h
   refine tail_any hl.typeIs slot_dict_getitem.lookup (wpAny_getItem_of (intKind_is S.prog S.w k t) hl.mapOf h1 ?_) (hs _ _)
   exact P W v s.heap _ R .refl h2
  ·rename_i es ho
   rw [ho] at O
   obtain ⟨_, kvs, hl, hkeys, hv, hz⟩ := O
   obtain ⟨v, h1, h2⟩ := oR hkeys hv h
   refine tail_any hl.typeIs slot_dict_getitem.lookup (wpAny_getItem_of (intKind_is S.prog S.w k t) hl.mapOf h1 ?_) (hs _ _)
   exact P W v s.heap _ R .refl h2
  ·exact bG h
 ·rename_i vs k
  cases hy with
  | int k t =>
  cases hx with
  | tup vs vals a h1 h2 h3 =>
  split at h
  ·rename_i h0
   have ht : IsTup s.heap a vals.toArray := ⟨_, (R.tup a _ h1).1, rfl, 0, rfl⟩
   obtain ⟨v, e1, e2⟩ := fy.get (W := W) (n := Z.next) ⟨h2, h3⟩ h
   have hk : k.toNat < vs.length := (List.getElem?_eq_some_iff.mp h).1
   refine tail_any (T := "tuple") ((cj ht λ o h c _ => ⟨o, h, c⟩)) PyProof.Rows.slot_tuple_getitem.lookup (getItem_tuple ht (by lia) (by lia) (seqIndex_of h0.1 (by rw [List.size_toArray]; lia)) (x := v) (by rw [List.getElem?_toArray]; exact e1) ?_) (hs _ _)
   exact P W v s.heap s.toks R .refl e2
  ·exact bG h
 ·exact bG h
def bp (a b : ag -> M PV) : ag -> M PV := λ fr Z => cb (a fr Z) λ x Z1 => cb (b fr Z1) λ y Z2 => match kT x y Z2 with
 | some v => some (v, Z2)
 | none => none
theorem cu {v i : Expr} {p : Pos} {a b} (ha : SE S d g ns v a) (hb : SE S d g ns i b) (hs : ∀ o j, subscripted i false o j = operate [o, j] (getItem o j) := by intros; rfl) : SE S d g ns (.Subscript v i p) (bp a b) := by
 intro A env W fr Z s Q E pv Z' r gl R F V e P
 refine ba e ?_; clear e; intro x Z1 e1 e
 refine ba e ?_; clear e; intro y Z2 e2 e
 split at e
 case h_2 => exact bG e
 rename_i z hz
 refine gx e ?_; rintro rfl rfl
 refine Subscript_ (ha A env W fr Z s _ E x _ r gl R F V e1 λ W1 vx h1 tk1 R1 t1 x1 => ?_)
 refine hb A env W1 fr _ _ _ E y _ r gl R1 (F.trans t1) (V.trans F t1) e2 λ W2 vy h2 tk2 R2 t2 x2 => ?_
 exact Av R2 (t2.vr x1) x2 hz ((P.next t1).next t2) hs
def qY : PV -> PV -> M PV := λ x y Z => match x, y with
 | .ref i, .ref j => (match Z.objs i, Z.objs j with
  | .list vs, .list ws => nP (vs ++ ws) Z
  | _, _ => none)
 | _, _ => none
theorem fy.append {W : Gh} {n : Nat} {vs ws : List PV} {a b : List Value} (h : fy W n vs a) (k : fy W n ws b) : fy W n (vs ++ ws) (a ++ b) := by
 refine ⟨by rw [List.length_append, List.length_append, h.1, k.1], λ j pv v h1 h2 => ?_⟩
 rcases Nat.lt_or_ge j vs.length with q | q
 ·rw [List.getElem?_append_left q] at h1
  rw [List.getElem?_append_left (h.1 ▸ q)] at h2
  exact h.2 j pv v h1 h2
 ·rw [List.getElem?_append_right q] at h1
  rw [List.getElem?_append_right (h.1 ▸ q), <- h.1] at h2
  exact k.2 _ pv v h1 h2
theorem yX : zm S d .Add qY := by
 intro A W Z s Q E x y vx vy pv Z' r R hx hy e P
 unfold qY at e
 split at e
 case h_2 => exact bG e
 split at e
 case h_2 => exact bG e
 rename_i i j _ _ vs ws hi hj
 refine bN (ic e) λ hz qq3 qq4 => ?_; obtain rfl := qq3; obtain rfl := qq4
 cases hx with
 | ref i hi' =>
 cases hy with
 | ref j hj' =>
 have O1 := R.obj i hi'
 have O2 := R.obj j hj'
 rw [hi] at O1
 rw [hj] at O2
 obtain ⟨_, va, ⟨n1, hl1⟩, hv1, _⟩ := O1
 obtain ⟨_, vb, ⟨n2, hl2⟩, hv2, _⟩ := O2
 have hlen : va.size + vb.size <= 1000 := by
  have h1 : vs.length = va.size := by have := hv1.1; simpa using this
  have h2 : ws.length = vb.size := by have := hv2.1; simpa using this
  rw [List.length_append] at hz
  lia
 refine concat_meets ⟨_, hl1, rfl⟩ ⟨_, hl2, rfl⟩ noFill_list_add seq_list_add PySem.F.slot_list_add PySem.F.entry_list_add (PySem.F.args_list_add_2 _ _) (list_addW (W.ad i).1 (W.ad j).1 va vb n1 n2 none none #[] #[] (by rw [sizeLine_eq]; lia)) ⟨hl1, hl2, ?_⟩
 obtain ⟨R2, t2, x2⟩ := R.newList (vs := vs ++ ws) (vals := va.toList ++ vb.toList) (h' := s.heap.push { cls := .type "list", data := .seq (va ++ vb) }) (λ b o e => Heap.get?_push_of_some _ e) (Nat.le_refl _) ⟨0, by
  rw [show (va.toList ++ vb.toList).toArray = va ++ vb by simp]; exact Heap.get?_push_size _ rfl⟩ (hv1.append hv2) hz
 exact P _ _ _ s.toks R2 t2 x2
def Dd (S : eP) (d : Nat) (fv : Value) (F : List PV -> M PV) : Prop :=
 ∀ (A : Around) (W : Gh) (Z : St) (s : Shared) (Q : Value -> Shared -> Prop) (E : Value -> Shared -> Prop) (pvs : List PV) (vals : List Value) (pv : PV) (Z' : St),
  gF d A -> dA S W Z s.heap -> fy W Z.next pvs vals -> F pvs Z = some (pv, Z') -> jS S W Z.next s pv Z' Q -> wpAny (model S.prog S.w) A (call fv vals) Q E s
structure De (S : eP) (d : Nat) (x : Str) (F : List PV -> M PV) : Prop where
 ex : ∃ fv, nsIn S.K mainGlobals x = some none /\ bootBuiltins x = some fv /\ x ≠ "__name__" /\ ((∃ id, fv = .builtin id) \/ ∃ T, fv = .type T) /\ Dd S d fv F
theorem bT {x : Str} {p pos : Pos} {e : Expr} {es : List Expr} {m : ag -> M (List PV)} {F : List PV -> M PV} {d' : Nat} (H : De S d' x F) (hx : x ∈ g.glob) (hm : Ev S d g ns (e :: es) m) (hd : d' <= d := by omega) (hb : fO x = false := by decide +kernel)
  (he : ∀ env, starEach (e :: es) env = (false, eval e env) :: starEach es env := by intro env; rfl) (hplain : ∀ env, (backTo pos (starEach es env)).any (·.1) = false := by intro env; rfl) :
  SE S d g ns (.Call (.Name x p) (e :: es) [] pos) (ap F m) := by
 intro A env W fr Z s Q E pv Z' r gl R Fm V e P
 refine ba e ?_; clear e; intro vs Z1 e1 e
 refine gJ H.ex λ fv h1 h2 hn hfv h3 => ?_
 refine Call_Name rfl (uW hx gl R Fm h1 h2 hn hb ?_)
 have hsp := hm A env W fr Z s (λ vals s₁ => wpAny (model S.prog S.w) A (call fv ([] ++ vals) []) Q E s₁) E vs Z1 pos r gl R Fm V e1 λ W1 vals h1 tk1 R1 t1 x1 =>
  h3 A W1 Z1 { s with heap := h1, toks := tk1 } Q E vs vals pv Z' (r.le hd) R1 x1 e λ W2 v h2 tk2 R2 t2 x2 => P W2 v h2 tk2 R2 (t1.comp t2) x2
 rw [he env] at hsp |-
 have hpl : ∀ t0, (backTo pos ((false, t0) :: starEach es env)).any (·.1) = false := λ t0 => by show (false || (backTo pos (starEach es env)).any (·.1)) = false; rw [hplain env]; rfl
 rcases hfv with ⟨id, rfl⟩ | ⟨T, rfl⟩
 ·exact callWith_builtin (first := []) (hpl _) (Calls.evalArgs_plain hsp)
 ·exact PyProof.Rows.callWith_type (first := []) (hpl _) (Calls.evalArgs_plain hsp)
noncomputable def yG (f : PV -> M PV) : List PV -> M PV := λ l Z => match l with
 | [] => none
 | x :: l => match l with
  | [] => f x Z
  | _ :: _ => none
def Cf (f : PV -> PV -> M PV) : List PV -> M PV := λ l => match l with
 | [] => λ _ => none
 | x :: l => yG (f x) l
noncomputable def zG (f : Int -> M PV) (p : PV) : M PV := λ Z => match p with
 | .int k => f k Z
 | _ => none
theorem vG {f : PV -> M PV} {l : List PV} {Z : St} {r : PV × St} {Q : Prop} (h : yG f l Z = some r) (k : ∀ x, l = [x] -> f x Z = some r -> Q) : Q := by
 cases l with
 | nil => exact bG h
 | cons x l => cases l with
  | nil => exact k x rfl h
  | cons y l => exact bG h
theorem zE {f : PV -> PV -> M PV} {l : List PV} {Z : St} {r : PV × St} {Q : Prop} (h : Cf f l Z = some r) (k : ∀ x y, l = [x, y] -> f x y Z = some r -> Q) : Q := by
 cases l with
 | nil => exact bG h
 | cons x l => exact vG (f := f x) h λ y q => k x y (q ▸ rfl)
theorem mf {f : Int -> M PV} {p : PV} {Z : St} {r : PV × St} {Q : Prop} (h : zG f p Z = some r) (k : ∀ i, p = .int i -> f i Z = some r -> Q) : Q := by
 cases p with
 | int i => exact k i rfl h
 | _ => exact bG h
theorem VR.iI {W : Gh} {n : Nat} {k : Int} {v : Value} (h : VR W n (.int k) v) : ∃ t, v = .int k t := by cases h; exact ⟨_, rfl⟩
noncomputable def fM : List PV -> M PV := λ pvs Z => match pvs with
 | [.ref i] => (match Z.objs i with
  | .list vs => some (.int vs.length, Z)
  | _ => none)
 | _ => none
theorem fy.one {W : Gh} {n : Nat} {p : PV} {vals : List Value} (h : fy W n [p] vals) : ∃ v, vals = [v] /\ VR W n p v :=
 br (List.length_eq_one_iff.mp h.1.symm) λ v q => cC v q (h.2 0 p v rfl (by rw [q]; rfl))
theorem fy.two {W : Gh} {n : Nat} {p q : PV} {vals : List Value} (h : fy W n [p, q] vals) : ∃ v w, vals = [v, w] /\ VR W n p v /\ VR W n q w :=
 by
 cases vals with
 | nil => exact absurd h.1 (by simp)
 | cons v l => exact br (List.length_eq_one_iff.mp (Nat.succ.inj h.1).symm) λ w q => kc v w (by rw [q]) (h.2 0 _ _ rfl rfl) (h.2 1 _ w rfl (by rw [q]; rfl))
theorem G7 : Dd S d (.builtin "len") fM := by
 intro A W Z s Q E pvs vals pv Z' r R hv e P
 unfold fM at e
 split at e
 case h_2 => exact bG e
 split at e
 case h_2 => exact bG e
 rename_i i _ vs ho
 refine gx e ?_; rintro rfl rfl
 refine aQ hv.one λ v qq7 hx => ?_; obtain rfl := qq7
 cases hx with
 | ref i hi =>
 have O := R.obj i hi
 rw [ho] at O
 obtain ⟨_, va, hl, hv1, hz⟩ := O
 have h1 : vs.length = va.size := by have := hv1.1; simpa using this
 refine call_len_list hl.isList (by lia) ?_
 rw [<- h1]
 exact P W _ s.heap _ R .refl (.int _ _)
def lC : List PV -> M PV := Cf λ x y => zG (λ a => zG (λ b Z => some (.int (if b > a then b else a), Z)) y) x
theorem G8 : Dd S d (.builtin "max") lC := by
 intro A W Z s Q E pvs vals pv Z' r R hv e P
 refine zE e λ x y q1 e => mf e λ a q2 e => mf e λ b q3 e => ?_
 cases q1; cases q2; cases q3
 refine gx e ?_; rintro rfl rfl
 refine gX hv.two λ v w q hx hy => ?_
 obtain rfl := q
 refine br hx.iI λ t1 q => ?_
 obtain rfl := q
 refine br hy.iI λ t2 q => ?_
 obtain rfl := q
 refine max_two_ints r.handled λ h' tk hk => ?_
 refine bK (R.keep hk) λ R' t' => ?_
 have := P W (.int _ s.toks) h' tk R' t' (.int _ _)
 split
 ·rename_i c; exact P W _ h' tk R' t' (by rw [if_pos c]; exact .int _ _)
 ·rename_i c; exact P W _ h' tk R' t' (by rw [if_neg c]; exact .int _ _)
def rY : List PV -> M PV := Cf λ x y => zG (λ a => zG (λ b Z => some (.int (if b < a then b else a), Z)) y) x
theorem Gy : Dd S d (.builtin "min") rY := by
 intro A W Z s Q E pvs vals pv Z' r R hv e P
 refine zE e λ x y q1 e => mf e λ a q2 e => mf e λ b q3 e => ?_
 cases q1; cases q2; cases q3
 refine gx e ?_; rintro rfl rfl
 refine gX hv.two λ v w q hx hy => ?_
 obtain rfl := q
 refine br hx.iI λ t1 q => ?_
 obtain rfl := q
 refine br hy.iI λ t2 q => ?_
 obtain rfl := q
 refine min_two_ints r.handled λ h' tk hk => ?_
 refine bK (R.keep hk) λ R' t' => ?_
 split
 ·rename_i c; exact P W _ h' tk R' t' (by rw [if_pos c]; exact .int _ _)
 ·rename_i c; exact P W _ h' tk R' t' (by rw [if_neg c]; exact .int _ _)
def Cg : List PV -> M PV := yG (zG λ a Z => some (.int (if a < 0 then -a else a), Z))
theorem Gz : Dd S d (.builtin "abs") Cg := by
 intro A W Z s Q E pvs vals pv Z' r R hv e P
 refine vG e λ x q1 e => mf e λ a q2 e => ?_
 cases q1; cases q2
 refine gx e ?_; rintro rfl rfl
 refine aQ hv.one λ v q hx => ?_
 obtain rfl := q
 refine br hx.iI λ t q => ?_
 obtain rfl := q
 exact call_abs_int λ u tk => P W _ s.heap tk R .refl (.int _ u)
def fG : List PV -> M PV := λ l => match l with
 | [] => λ _ => none
 | x :: l => match l with
  | [] => zG (λ b Z => some (.rng 0 b, Z)) x
  | _ :: _ => yG (λ y => zG (λ a => zG (λ b Z => some (.rng a b, Z)) y) x) l
theorem Dk : Dd S d (.type "range") fG := by
 intro A W Z s Q E pvs vals pv Z' r R hv e P
 have fin : ∀ (a b : Int) (t u v : Tok) (tk : Nat), pv = .rng a b -> Z' = Z -> Q (.ref s.heap.objs.size) { s with heap := s.heap.push (D3 a b t u v), toks := tk } := λ a b t u v tk q1 q2 => by
  subst q1; subst q2
  refine bK (R.tuple (o := D3 a b t u v) (λ b o e => Heap.get?_push_of_some _ e) (Heap.get?_none_of_le (Nat.le_refl _)) (Heap.get?_push_size s.heap rfl) (.inr (.inl ⟨_, _, _, _, _, rfl⟩))) λ R2 t2 => ?_
  exact P _ _ _ _ R2 t2 (.rng _ _ _ _ _ _ (if_pos rfl))
 cases pvs with
 | nil => exact bG e
 | cons x l =>
  cases l with
  | nil =>
   refine mf (show zG (λ b Z => some (PV.rng 0 b, Z)) x Z = some (pv, Z') from e) λ b q e => gx e λ e1 e2 => ?_
   subst q
   refine aQ hv.one λ v q hx => ?_
   obtain rfl := q
   refine br hx.iI λ t q => ?_
   obtain rfl := q
   exact call_range_1 (fin _ _ _ _ _ _ e1.symm e2.symm)
  | cons y l =>
   refine vG (show yG (λ y => zG (λ a => zG (λ b Z => some (PV.rng a b, Z)) y) x) (y :: l) Z = some (pv, Z') from e) λ y' q1 e => mf e λ a q2 e => mf e λ b q3 e => gx e λ e1 e2 => ?_
   cases q1; subst q2; subst q3
   refine gX hv.two λ v w q hx hy => ?_
   obtain rfl := q
   refine br hx.iI λ t q => ?_
   obtain rfl := q
   refine br hy.iI λ u q => ?_
   obtain rfl := q
   exact call_range_2 (fin _ _ _ _ _ _ e1.symm e2.symm)
end
section
variable {S : eP}
variable {d : Nat} {g : Gn} {ns : List Str}
theorem pW {prog : Program} {w : World} {A : Around} {s : Shared} {E : Value -> Shared -> Prop} {l : Addr} {items : Array Value} {k : Int} {t : Tok} {v : Value} {Q : Unit -> Shared -> Prop} (hl : s.heap.PlainList l items)
  (h0 : 0 <= k) (hfit : k < 2 ^ 63) (hn : k < items.size)
  (hQ : ∀ h', h'.PlainList l (items.setIfInBounds k.toNat v) -> Heap.SameBut l s.heap h' -> Q () { s with heap := h' }) : wpAny (model prog w) A (setItem (.ref l) (.int k t) v) Q E s := by
 obtain ⟨n, ho⟩ := id hl
 have hT : s.TypeIs (.ref l) "list" := ⟨_, ho, rfl⟩
 unfold setItem
 try with_reducible refine wpAny_holding ?_
 refine wpAny_bind (wpAny_sequenceKey hT (by decide) ?_)
 refine wpAny_bind (wpAny_callSpecial?_slot (name := Str.ofString "__setitem__") hT slot_list_setitem (wpAny_call_entry slot_list_setitem hT entry_list_setitem ?_ (args_list_setitem _ _ _)))
 show wpAny _ _ (Builtin.List.listSubscript? (.int k t) >>= _) _ _ s
 refine wpAny_bind (wpAny_listSubscript_int (fitsIndex_of h0 hfit) ?_)
 obtain ⟨j, rfl⟩ := Int.eq_ofNat_of_zero_le h0
 have hj : j < items.size := by omega
 have hx' : items[j]? = some items[j] := Array.getElem?_eq_getElem hj
 show wpAny _ _ ((seqItemAt l j >>= λ r => pure (r.map (j, ·))) >>= _) _ _ s
 refine wpAny_bind (wpAny_bind (wpAny_seqItemAt ho rfl (wpAny_pure ?_)))
 rw [hx']
 show wpAny _ _ (setSeqItemAt l j v >>= _) _ _ s
 have hfin : (s.heap.update l (Obj.mapSeq (·.setIfInBounds j v))).PlainList l (items.setIfInBounds j v) := ⟨_, Heap.get?_update_self _ ho rfl⟩
 refine wpAny_bind (wpAny_setSeqItemAt ho rfl ?_)
 first
  | exact wpAny_bind (wpAny_pure (wpAny_pure ⟨.none, rfl, wpAny_pure (hQ _ hfin (Heap.SameBut.update ..))⟩))
  | exact wpAny_pure ⟨.none, rfl, wpAny_pure (hQ _ hfin (Heap.SameBut.update ..))⟩
theorem dA.setList {W : Gh} {Z : St} {h h' : Heap} (R : dA S W Z h) {i : Nat} (hi : i < Z.next) {vs ws : List PV} {va : Array Value} (ho : Z.objs i = .list vs) (hs : Heap.SameBut (W.ad i).1 h h') (hl : h'.PlainList (W.ad i).1 va)
  (hv : fy W Z.next ws va.toList) (hz : ws.length <= 1000) : dA S W (Z.set i (.list ws)) h' /\ bE lO W Z.next h W Z.next h' := by
 have O := R.obj i hi
 rw [ho] at O
 exact R.upd hi (R.unfz hi (by rw [ho]; exact ⟨(λ _ q => by cases q), (λ _ q => by cases q)⟩)) (.inl rfl) (λ b o hb e => (hs.2 b hb).trans e) ((br hl λ _ e => ⟨_, e⟩)) ⟨O.1, va, hl, hv, hz⟩
theorem dA.setDict {W : Gh} {Z : St} {h h' : Heap} (R : dA S W Z h) {i : Nat} (hi : i < Z.next) {es fs : List (Int × PV)} {kvs : List (Int × Value)} (ho : Z.objs i = .dict es) (hs : Heap.SameBut (W.ad i).1 h h') (hl : h'.DictOf (intKind S.prog S.w) (W.ad i).1 kvs)
  (hk : fs.map (·.1) = kvs.map (·.1)) (hv : fy W Z.next (fs.map (·.2)) (kvs.map (·.2))) (hz : fs.length <= 1000) : dA S W (Z.set i (.dict fs)) h' /\ bE lO W Z.next h W Z.next h' := by
 have O := R.obj i hi
 rw [ho] at O
 exact R.upd hi (R.unfz hi (by rw [ho]; exact ⟨(λ _ q => by cases q), (λ _ q => by cases q)⟩)) (.inl rfl) (λ b o hb e => (hs.2 b hb).trans e) ((iV hl λ o _ _ e _ => ⟨o, e⟩)) ⟨O.1, kvs, hl, hk, hv, hz⟩
noncomputable def mi (x : PV) (Z : St) : Bool := match x with
 | .ref i => (match Z.objs i with | .list _ => true | _ => false)
 | _ => false
noncomputable def EI (x : PV) (Z : St) : Bool := match x with
 | .ref i => (match Z.objs i with | .dict _ => true | _ => false)
 | _ => false
theorem xP {x : PV} {Z : St} (h : mi x Z = true) : ∃ i vs, x = .ref i /\ Z.objs i = .list vs := by
 unfold mi at h
 split at h
 ·split at h
  ·exact ⟨_, _, rfl, ‹_›⟩
  ·cases h
 ·cases h
theorem B1 {x : PV} {Z : St} (h : EI x Z = true) : ∃ i vs, x = .ref i /\ Z.objs i = .dict vs := by
 unfold EI at h
 split at h
 ·split at h
  ·exact lW _ _ rfl (‹_›)
  ·cases h
 ·cases h
def ds (t : PV -> St -> Bool) (f : PV -> PV -> M PV) (a b : ag -> M PV) : ag -> M PV := λ fr Z => cb (a fr Z) λ x Z1 => if t x Z1 then cb (b fr Z1) λ y Z2 => f x y Z2 else none
def nr (t : PV -> St -> Bool) (f : PV -> M PV) (a : ag -> M PV) : ag -> M PV := λ fr Z => cb (a fr Z) λ x Z1 => if t x Z1 then f x Z1 else none
def Cl (S : eP) (d : Nat) (id : String) (f : PV -> PV -> M PV) : Prop :=
 ∀ (A : Around) (W : Gh) (Z : St) (s : Shared) (Q : Value -> Shared -> Prop) (E : Value -> Shared -> Prop) (x y : PV) (vx vy : Value) (pv : PV) (Z' : St),
  gF d A -> dA S W Z s.heap -> VR W Z.next x vx -> VR W Z.next y vy -> f x y Z = some (pv, Z') -> jS S W Z.next s pv Z' Q -> wpAny (model S.prog S.w) A (call (.builtin id) [vx, vy]) Q E s
theorem xE {W : Gh} {Z : St} {h : Heap} (R : dA S W Z h) {i : Nat} (hi : i < Z.next) {vs : List PV} (ho : Z.objs i = .list vs) : ∃ n va, h.get? (W.ad i).1 = some { cls := .type "list", data := .seq va n } := by
 have O := R.obj i hi
 rw [ho] at O
 obtain ⟨_, va, ⟨n, e⟩, _⟩ := O
 exact sc n va e
theorem hU {o e : Expr} {name : Str} {apos pos : Pos} {a b : ag -> M PV} {id : String} {f : PV -> PV -> M PV} {pl : Env -> Sem Bool} (slot : Slot "list" name id) (hty : typeOf (.builtin id) = pure (.type "method_descriptor")) (hf : Cl S d id f)
  (ha : SE S d g ns o a) (hb : SE S d g ns e b)
  (he : ∀ env, eval (.Call (.Attribute o name apos) [e] [] pos) env = (do
   let ov <- eval o env
   standAt apos.atName
   let (f, first) <- holding [ov] (getMethod ov name (pl env))
   callWith pos f first (backTo pos (starEach [e] env)) []) := by intro env; rfl) (hst : ∀ env, starEach [e] env = [(false, eval e env)] := by intro env; rfl) :
  SE S d g ns (.Call (.Attribute o name apos) [e] [] pos) (ds mi f a b) := by
 intro A env W fr Z s Q E pv Z' r gl R F V h P
 refine ba h ?_; clear h; intro x Z1 e1 h
 split at h
 case isFalse => exact bG h
 rename_i ht
 refine ba h ?_; clear h; intro y Z2 e2 h
 refine jn (xP ht) λ i vs qq3 ho => ?_; obtain rfl := qq3
 refine MethodCall_ (ha A env W fr Z s _ E _ _ r gl R F V e1 λ W1 vx h1 tk1 R1 t1 x1 => ?_) (he env)
 cases x1 with
 | ref i hi =>
 refine fj (xE R1 hi ho) λ n va hget => ?_
 refine getMethod_builtin (T := "list") ⟨_, hget, rfl⟩ PySem.F.plainAttrs_list slot hty (λ a q => by cases q; exact cC _ hget rfl) ?_
 rw [hst env]
 refine callWith_builtin (first := [.ref (W1.ad i).1]) rfl (Calls.evalArgs_plain (spliced_cons ?_))
 refine hb A env W1 fr Z1 _ _ E y _ r gl R1 (F.trans t1) (V.trans F t1) e2 λ W2 vy h2 tk2 R2 t2 x2 => spliced_nil ?_
 have hx : VR W2 Z2.next (.ref i) (.ref (W1.ad i).1) := t2.vr (.ref i hi)
 exact hf A W2 Z2 _ Q E (.ref i) y _ vy pv Z' r R2 hx x2 h ((P.next t1).next t2)
theorem Az {o e : Expr} {name : Str} {apos pos : Pos} {a b : ag -> M PV} {id : String} {f : PV -> PV -> M PV} {pl : Env -> Sem Bool} (slot : Slot "dict" name id) (hty : typeOf (.builtin id) = pure (.type "method_descriptor")) (hf : Cl S d id f)
  (ha : SE S d g ns o a) (hb : SE S d g ns e b)
  (he : ∀ env, eval (.Call (.Attribute o name apos) [e] [] pos) env = (do
   let ov <- eval o env
   standAt apos.atName
   let (f, first) <- holding [ov] (getMethod ov name (pl env))
   callWith pos f first (backTo pos (starEach [e] env)) []) := by intro env; rfl) (hst : ∀ env, starEach [e] env = [(false, eval e env)] := by intro env; rfl) :
  SE S d g ns (.Call (.Attribute o name apos) [e] [] pos) (ds EI f a b) := by
 intro A env W fr Z s Q E pv Z' r gl R F V h P
 refine ba h ?_; clear h; intro x Z1 e1 h
 split at h
 case isFalse => exact bG h
 rename_i ht
 refine ba h ?_; clear h; intro y Z2 e2 h
 refine jn (B1 ht) λ i vs qq4 ho => ?_; obtain rfl := qq4
 refine MethodCall_ (ha A env W fr Z s _ E _ _ r gl R F V e1 λ W1 vx h1 tk1 R1 t1 x1 => ?_) (he env)
 cases x1 with
 | ref i hi =>
 have O := R1.obj i hi
 rw [ho] at O
 obtain ⟨_, kvs, hdo, _⟩ := O
 refine getMethod_builtin hdo.typeIs PySem.F.plainAttrs_dict slot hty hdo.mapOf.noDict ?_
 rw [hst env]
 refine callWith_builtin (first := [.ref (W1.ad i).1]) rfl (Calls.evalArgs_plain (spliced_cons ?_))
 refine hb A env W1 fr Z1 _ _ E y _ r gl R1 (F.trans t1) (V.trans F t1) e2 λ W2 vy h2 tk2 R2 t2 x2 => spliced_nil ?_
 have hx : VR W2 Z2.next (.ref i) (.ref (W1.ad i).1) := t2.vr (.ref i hi)
 exact hf A W2 Z2 _ Q E (.ref i) y _ vy pv Z' r R2 hx x2 h ((P.next t1).next t2)
def dv : PV -> PV -> M PV := λ x y Z => match x with
 | .ref i => (match Z.objs i with
  | .list vs => if vs.length < 1000 then some (.none, Z.set i (.list (vs ++ [y]))) else none
  | _ => none)
 | _ => none
theorem kx : Cl S d "list.append" dv := by
 intro A W Z s Q E x y vx vy pv Z' r R hx hy h P
 unfold dv at h
 split at h
 case h_2 => exact bG h
 split at h
 case h_2 => exact bG h
 rename_i i _ vs ho
 split at h
 case isFalse => exact bG h
 rename_i hz
 refine gx h ?_; rintro rfl rfl
 cases hx with
 | ref i hi =>
 have O := R.obj i hi
 rw [ho] at O
 obtain ⟨_, va, hl, hv, _⟩ := O
 have hlen : vs.length = va.size := by have := hv.1; simpa using this
 refine wpAny_list_append_plain hl (λ h' hl' hs' => ?_) (by rw [sizeLine_eq]; lia)
 obtain ⟨R', t'⟩ := R.setList hi ho hs' hl' (ws := vs ++ [y]) (by rw [Array.toList_push]; exact hv.append (.cons hy .nil)) (by simp; lia)
 exact P W .none h' s.toks R' t' .none
def xc : PV -> M PV := λ x Z => match x with
 | .ref i => (match Z.objs i with
  | .list vs => (match vs.getLast? with
   | some v => some (v, Z.set i (.list vs.dropLast))
   | none => none)
  | _ => none)
 | _ => none
theorem Cc {o : Expr} {apos pos : Pos} {a : ag -> M PV} {pl : Env -> Sem Bool} (ha : SE S d g ns o a)
  (he : ∀ env, eval (.Call (.Attribute o "pop" apos) [] [] pos) env = (do
   let ov <- eval o env
   standAt apos.atName
   let (f, first) <- holding [ov] (getMethod ov "pop" (pl env))
   callWith pos f first (backTo pos (starEach [] env)) []) := by intro env; rfl) :
  SE S d g ns (.Call (.Attribute o "pop" apos) [] [] pos) (nr mi xc a) := by
 intro A env W fr Z s Q E pv Z' r gl R F V h P
 refine ba h ?_; clear h; intro x Z1 e1 h
 split at h
 case isFalse => exact bG h
 rename_i ht
 refine jn (xP ht) λ i vs qq5 ho => ?_; obtain rfl := qq5
 refine MethodCall_ (ha A env W fr Z s _ E _ _ r gl R F V e1 λ W1 vx h1 tk1 R1 t1 x1 => ?_) (he env)
 cases x1 with
 | ref i hi =>
 have O := R1.obj i hi
 rw [ho] at O
 obtain ⟨_, va, ⟨n, hget⟩, hv, hz⟩ := O
 refine getMethod_builtin (T := "list") ⟨_, hget, rfl⟩ PySem.F.plainAttrs_list PySem.F.slot_list_pop PySem.F.type_list_pop (λ a q => by cases q; exact ⟨_, hget, rfl⟩) ?_
 unfold xc at h
 simp only [ho] at h
 split at h
 case h_2 => exact bG h
 rename_i v hlast
 cases h
 have hlen : vs.length = va.size := by have := hv.1; simpa using this
 have hne : vs ≠ [] := λ q => by rw [q] at hlast; cases hlast
 have hpos : 0 < vs.length := List.length_pos_iff.mpr hne
 have hlast' : vs[vs.length - 1]? = some pv := by rw [<- List.getLast?_eq_getElem?]; exact hlast
 obtain ⟨v', hv1, hv2⟩ := hv.get hlast'
 have hv1' : va[va.size - 1]? = some v' := by rw [<- Array.getElem?_toList, <- hlen]; exact hv1
 show wpAny _ _ (callWith pos (.builtin "list.pop") [.ref (W1.ad i).1] [] []) _ _ _
 refine PySem.P.pop_list (n := n) hget hv1' ?_ (by rw [sizeLine_eq]; lia)
 have hl' : (h1.update (W1.ad i).1 (Obj.mapSeq λ xs => xs.eraseIdxIfInBounds (va.size - 1))).PlainList (W1.ad i).1 (va.eraseIdxIfInBounds (va.size - 1)) := ⟨_, Heap.get?_update_self _ hget rfl⟩
 have hws : (va.eraseIdxIfInBounds (va.size - 1)).toList = va.toList.dropLast := by
  rw [Array.toList_eraseIdxIfInBounds, List.dropLast_eq_take, List.eraseIdx_eq_take_drop_succ, Array.length_toList, List.drop_eq_nil_of_le (by simp; lia), List.append_nil]
 obtain ⟨R2, t2⟩ := R1.setList hi ho (Heap.SameBut.update ..) hl' (ws := vs.dropLast) (by
  rw [hws]
  refine ⟨by simp [hlen], λ k pv v p q => ?_⟩
  rw [List.getElem?_dropLast] at p q
  split at p
  ·split at q
   ·exact hv.2 k pv v p q
   ·exact bG q
  ·exact bG p) (by simp; lia)
 exact P W1 v' _ tk1 R2 (t1.comp t2) hv2
noncomputable def lG (es : List (Int × PV)) (k : Int) : List (Int × PV) := es.filter λ kv => decide (kv.1 ≠ k)
def nc : PV -> PV -> M PV := λ x y Z => match x, y with
 | .ref i, .int k => (match Z.objs i with
  | .dict es => (match gL es k with
   | some v => some (v, Z.set i (.dict (lG es k)))
   | none => none)
  | _ => none)
 | _, _ => none
theorem xg {W : Gh} {n : Nat} (k : Int) : ∀ {es : List (Int × PV)} {kvs : List (Int × Value)}, es.map (·.1) = kvs.map (·.1) -> fy W n (es.map (·.2)) (kvs.map (·.2)) ->
  (lG es k).map (·.1) = (without kvs k).map (·.1) /\ fy W n ((lG es k).map (·.2)) ((without kvs k).map (·.2)) := by
 intro es
 induction es with
 | nil => intro kvs h1 h2; cases kvs with | nil => exact ⟨rfl, .nil⟩ | cons _ _ => cases h1
 | cons e es ih =>
  intro kvs h1 h2
  cases kvs with
  | nil => cases h1
  | cons kv kvs =>
   simp only [List.map_cons, List.cons.injEq] at h1
   have h3 : VR W n e.2 kv.2 := h2.2 0 _ _ rfl rfl
   have h4 : fy W n (es.map (·.2)) (kvs.map (·.2)) := ⟨by have := h2.1; simpa using this, λ j a b p q => h2.2 (j + 1) a b (by simpa using p) (by simpa using q)⟩
   refine bK (ih h1.2 h4) λ i1 i2 => ?_
   unfold lG without at i1 i2 |-
   by_cases q : e.1 = k
   ·have q' : kv.1 = k := h1.1 ▸ q
    simp only [List.filter_cons, q, q', ne_eq, not_true, decide_false, Bool.false_eq_true, if_false]
    exact ⟨i1, i2⟩
   ·have q' : ¬ kv.1 = k := h1.1 ▸ q
    simp only [List.filter_cons, q, q', ne_eq, not_false_eq_true, decide_true, if_true, List.map_cons]
    exact ⟨by rw [i1, h1.1], .cons h3 i2⟩
theorem sV {W : Gh} {n : Nat} {es : List (Int × PV)} {kvs : List (Int × Value)} (h : fy W n (es.map (·.2)) (kvs.map (·.2))) : kvs.length = es.length := by have := h.1; simpa using this.symm
theorem Fd : Cl S d "dict.pop" nc := by
 intro A W Z s Q E x y vx vy pv Z' r R hx hy h P
 unfold nc at h
 split at h
 case h_2 => exact bG h
 split at h
 case h_2 => exact bG h
 rename_i i k _ es ho
 split at h
 case h_2 => exact bG h
 rename_i v hg
 refine gx h ?_; rintro rfl rfl
 cases hx with
 | ref i hi =>
 cases hy with
 | int k t =>
 have O := R.obj i hi
 rw [ho] at O
 obtain ⟨_, kvs, hl, hk, hv, hz⟩ := O
 refine aQ (oR hk hv hg) λ v' h1 h2 => ?_
 have hlen := sV hv
 refine call_meetsIn PySem.F.slot_dict_pop hl.typeIs PySem.F.entry_dict_pop (PySem.F.args_dict_pop_2 _ _) (meets_dict_pop_there (intKind S.prog S.w) (W.ad i).1 (intKind_is S.prog S.w k t) [] (.inl rfl) rfl) ⟨kvs, v', hl, (by rw [sizeLine_eq]; lia), h1, λ h' hmm hs => ?_⟩
 refine bK (xg k hk hv) λ r1 r2 => ?_
 refine bK (R.setDict hi ho hs hmm (fs := lG es k) r1 r2 (Nat.le_trans (List.length_filter_le _ _) hz)) λ R' t' => ?_
 exact P W v' h' _ R' t' h2
noncomputable def Bq (c : Nat) (x : PV) (Z : St) : Bool := match x with
 | .ref i => (match Z.objs i with | .inst c' _ => c == c' | _ => false)
 | _ => false
theorem Ct {c : Nat} {x : PV} {Z : St} (h : Bq c x Z = true) : ∃ i fs, x = .ref i /\ Z.objs i = .inst c fs := by
 unfold Bq at h
 split at h
 ·split at h
  ·rename_i e; exact lW _ _ rfl (by rw [e, beq_iff_eq.mp h])
  ·cases h
 ·cases h
def mR (c : Nat) (F : List PV -> M PV) (a : ag -> M PV) (m : ag -> M (List PV)) : ag -> M PV := λ fr Z => cb (a fr Z) λ x Z1 => if Bq c x Z1 then cb (m fr Z1) λ vs Z2 => F (x :: vs) Z2 else none
structure Hr (S : eP) (d : Nat) (c : Nat) (x : Str) (F : List PV -> M PV) : Prop where
 ex : ∃ f, lU S c /\ findIn S.K (.ref (S.cadr c)) x = some (some (.ref f)) /\ isFn S.K (.ref f) = true /\ keepIn S.K (.ref f) = true /\ (∀ k : Nat, (S.flds c)[k]? ≠ some x) /\ cU S d (.ref f) F
theorem ms {o e : Expr} {es : List Expr} {name : Str} {apos pos : Pos} {a : ag -> M PV} {m : ag -> M (List PV)} {c : Nat} {F : List PV -> M PV} {pl : Env -> Sem Bool} {d' : Nat} (H : Hr S d' c name F)
  (ha : SE S d g ns o a) (hm : Ev S d g ns (e :: es) m) (hd : d' <= d := by omega)
  (he : ∀ env, eval (.Call (.Attribute o name apos) (e :: es) [] pos) env = (do
   let ov <- eval o env
   standAt apos.atName
   let (f, first) <- holding [ov] (getMethod ov name (pl env))
   callWith pos f first (backTo pos (starEach (e :: es) env)) []) := by intro env; rfl)
  (hst : ∀ env, starEach (e :: es) env = (false, eval e env) :: starEach es env := by intro env; rfl) (hplain : ∀ env, (backTo pos (starEach es env)).any (·.1) = false := by intro env; rfl) :
  SE S d g ns (.Call (.Attribute o name apos) (e :: es) [] pos) (mR c F a m) := by
 intro A env W fr Z s Q E pv Z' r gl R Fm V h P
 refine ba h ?_; clear h; intro x Z1 e1 h
 split at h
 case isFalse => exact bG h
 rename_i ht
 refine ba h ?_; clear h; intro vs Z2 e2 h
 refine jn (Ct ht) λ i fs qq7 ho => ?_; obtain rfl := qq7
 refine uL H.ex λ f cf h1 h2 h3 h4 h5 => ?_
 refine MethodCall_ (ha A env W fr Z s _ E _ _ r gl R Fm V e1 λ W1 vx hh1 tk1 R1 t1 x1 => ?_) (he env)
 cases x1 with
 | ref i hi =>
 have O := R1.obj i hi
 rw [ho] at O
 obtain ⟨ne, hx, mm, ⟨od, es', ep, hd', hdd, hsk, hmm⟩, hf, hg, _⟩ := O
 have I : InstAt hh1 (W1.ad i).1 (instObj (S.cadr c) (W1.ad i).2) (S.cadr c) (some od) := ⟨hx, rfl, rfl, hd'⟩
 have pg := plainGet_of (name := "") cf.get
 refine method_fn (S.X.keeps R1.base) I pg.1 pg.2 h1 (beq_iff_eq.mp h2) (by
  show (lookIn name od).map _ = _
  rw [se hdd hsk name ((hmm name).trans (hg name λ k _ => h4 k))]; rfl) ?_
 refine callWith_K S.X h3 (hm A env W1 fr Z1 _ _ E vs Z2 pos r gl R1 (Fm.trans t1) (V.trans Fm t1) e2 λ W2 vals hh2 tk2 R2 t2 x2 => ⟨S.X.keeps R2.base, ?_⟩) (hst env) (hplain env)
 have hx' : VR W2 Z2.next (.ref i) (.ref (W1.ad i).1) := t2.vr (.ref i hi)
 exact wpAny_call (h5 A W2 Z2 _ _ (.ref i :: vs) (.ref (W1.ad i).1 :: vals) pv Z' (r.le hd) R2 (.cons hx' x2) h λ W3 v hh3 tk3 R3 t3 x3 => P W3 v hh3 tk3 R3 ((t1.comp t2).comp t3) x3)
noncomputable def lJ (es : List (Int × PV)) (k : Int) (v : PV) : List (Int × PV) := if es.any (λ kv => kv.1 = k) then es.map (λ kv => if kv.1 = k then (kv.1, v) else kv) else es ++ [(k, v)]
def nt (x y v : PV) (Z : St) : Option St := match x, y with
 | .ref i, .int k => (match Z.objs i with
  | .list vs => if 0 <= k /\ k.toNat < vs.length then some (Z.set i (.list (vs.set k.toNat v))) else none
  | .dict es => if es.length < 1000 then some (Z.set i (.dict (lJ es k v))) else none
  | _ => none)
 | _, _ => none
theorem C3 {W : Gh} {n : Nat} (k : Int) {pv : PV} {v : Value} (hpv : VR W n pv v) {es : List (Int × PV)} {kvs : List (Int × Value)} (h1 : es.map (·.1) = kvs.map (·.1)) (h2 : fy W n (es.map (·.2)) (kvs.map (·.2))) :
  (lJ es k pv).map (·.1) = (stored kvs k v).map (·.1) /\ fy W n ((lJ es k pv).map (·.2)) ((stored kvs k v).map (·.2)) := by
 have hany : es.any (λ kv => decide (kv.1 = k)) = kvs.any (λ kv => decide (kv.1 = k)) := by
  have e1 : es.any (λ kv => decide (kv.1 = k)) = (es.map (·.1)).any (λ y => decide (y = k)) := by rw [List.any_map]; rfl
  have e2 : kvs.any (λ kv => decide (kv.1 = k)) = (kvs.map (·.1)).any (λ y => decide (y = k)) := by rw [List.any_map]; rfl
  rw [e1, e2, h1]
 unfold lJ stored
 rw [hany]
 split
 ·clear hany
  induction es generalizing kvs with
  | nil => cases kvs with | nil => exact ⟨rfl, .nil⟩ | cons _ _ => cases h1
  | cons e es ih =>
   cases kvs with
   | nil => cases h1
   | cons kv kvs =>
    simp only [List.map_cons, List.cons.injEq] at h1
    have h3 : VR W n e.2 kv.2 := h2.2 0 _ _ rfl rfl
    have h4 : fy W n (es.map (·.2)) (kvs.map (·.2)) := ⟨by have := h2.1; simpa using this, λ j a b p q => h2.2 (j + 1) a b (by simpa using p) (by simpa using q)⟩
    rename_i hh
    obtain ⟨i1, i2⟩ : (List.map (λ x => x.1) (List.map (λ kv => if kv.1 = k then (kv.1, pv) else kv) es) = List.map (λ x => x.1) (List.map (λ kv => if kv.1 = k then (kv.1, v) else kv) kvs)) /\ fy W n (List.map (λ x => x.2) (List.map (λ kv => if kv.1 = k then (kv.1, pv) else kv) es)) (List.map (λ x => x.2) (List.map (λ kv => if kv.1 = k then (kv.1, v) else kv) kvs)) := by
     clear ih hh
     have : ∀ {es : List (Int × PV)} {kvs : List (Int × Value)}, es.map (·.1) = kvs.map (·.1) -> fy W n (es.map (·.2)) (kvs.map (·.2)) -> (List.map (λ x => x.1) (List.map (λ kv => if kv.1 = k then (kv.1, pv) else kv) es) = List.map (λ x => x.1) (List.map (λ kv => if kv.1 = k then (kv.1, v) else kv) kvs)) /\ fy W n (List.map (λ x => x.2) (List.map (λ kv => if kv.1 = k then (kv.1, pv) else kv) es)) (List.map (λ x => x.2) (List.map (λ kv => if kv.1 = k then (kv.1, v) else kv) kvs)) := by
      intro es
      induction es with
      | nil => intro kvs a b; cases kvs with | nil => exact ⟨rfl, .nil⟩ | cons _ _ => cases a
      | cons e es ih =>
       intro kvs a b
       cases kvs with
       | nil => cases a
       | cons kv kvs =>
        simp only [List.map_cons, List.cons.injEq] at a
        have b3 : VR W n e.2 kv.2 := b.2 0 _ _ rfl rfl
        have b4 : fy W n (es.map (·.2)) (kvs.map (·.2)) := ⟨by have := b.1; simpa using this, λ j x y p q => b.2 (j + 1) x y (by simpa using p) (by simpa using q)⟩
        obtain ⟨i1, i2⟩ := ih a.2 b4
        simp only [List.map_cons]
        by_cases q : e.1 = k
        ·have q' : kv.1 = k := a.1 ▸ q
         rw [if_pos q, if_pos q']
         exact ⟨by rw [i1, a.1], .cons hpv i2⟩
        ·have q' : ¬ kv.1 = k := a.1 ▸ q
         rw [if_neg q, if_neg q']
         exact ⟨by rw [i1, a.1], .cons b3 i2⟩
     exact this h1.2 h4
    simp only [List.map_cons]
    by_cases q : e.1 = k
    ·have q' : kv.1 = k := h1.1 ▸ q
     rw [if_pos q, if_pos q']
     exact ⟨by rw [i1, h1.1], .cons hpv i2⟩
    ·have q' : ¬ kv.1 = k := h1.1 ▸ q
     rw [if_neg q, if_neg q']
     exact ⟨by rw [i1, h1.1], .cons h3 i2⟩
 ·rw [List.map_append, List.map_append, List.map_append, List.map_append, h1]
  exact ⟨rfl, h2.append (.cons hpv .nil)⟩
theorem Bx (es : List (Int × PV)) (k : Int) (v : PV) : (lJ es k v).length <= es.length + 1 := by
 unfold lJ; split <;> simp
theorem fy.set {W : Gh} {n : Nat} {vs : List PV} {vals : List Value} (h : fy W n vs vals) {p : PV} {v : Value} (hp : VR W n p v) (k : Nat) : fy W n (vs.set k p) (vals.set k v) := by
 refine ⟨by simp [h.1], λ j a b x y => ?_⟩
 rw [List.getElem?_set] at x y
 by_cases q : k = j
 ·rw [if_pos q] at x y
  by_cases q2 : k < vs.length
  ·rw [if_pos q2] at x
   rw [if_pos (h.1 ▸ q2)] at y
   cases ej x; cases ej y; exact hp
  ·rw [if_neg q2] at x; exact bG x
 ·rw [if_neg q] at x y
  exact h.2 j a b x y
theorem AR {A : Around} {W : Gh} {Z Z' : St} {s : Shared} {Q : Unit -> Shared -> Prop} {E : Value -> Shared -> Prop} {x y pv : PV} {vx vy v : Value} (R : dA S W Z s.heap) (hx : VR W Z.next x vx) (hy : VR W Z.next y vy) (hv : VR W Z.next pv v)
  (h : nt x y pv Z = some Z') (P : ∀ h' tk, dA S W Z' h' -> bE lO W Z.next s.heap W Z.next h' -> Z'.next = Z.next -> Q () { s with heap := h', toks := tk }) : wpAny (model S.prog S.w) A (setItem vx vy v) Q E s := by
 unfold nt at h
 split at h
 case h_2 => exact bG h
 rename_i i k
 cases hy with
 | int k t =>
 cases hx with
 | ref i hi =>
 have O := R.obj i hi
 split at h
 ·rename_i vs ho
  rw [ho] at O
  obtain ⟨_, va, hl, hvs, hz⟩ := O
  split at h
  case isFalse => exact bG h
  rename_i hb
  cases ej h
  have hlen : vs.length = va.size := by have := hvs.1; simpa using this
  refine pW hl hb.1 (by lia) (by lia) λ h' hl' hs' => ?_
  refine bK (R.setList hi ho hs' hl' (ws := vs.set k.toNat pv) (by rw [Array.toList_setIfInBounds]; exact hvs.set hv _) (by simpa using hz)) λ R' t' => ?_
  exact P h' s.toks R' t' rfl
 ·rename_i es ho
  rw [ho] at O
  obtain ⟨_, kvs, hl, hk, hvs, hz⟩ := O
  split at h
  case isFalse => exact bG h
  rename_i hb
  cases ej h
  have hlen := sV hvs
  refine wpAny_setItem_pairs (intKind_is S.prog S.w k t) hl (λ h' hl' hs' => ?_) (by rw [sizeLine_eq]; lia)
  refine bK (C3 k hv hk hvs) λ r1 r2 => ?_
  refine bK (R.setDict hi ho hs' hl' (fs := lJ es k pv) r1 r2 (by have := Bx es k pv; exact Nat.le_trans (by assumption) (by assumption))) λ R' t' => ?_
  exact P h' _ R' t' rfl
 ·exact bG h
def fw (o i v : ag -> M PV) : ag -> M (FR × ag) := λ fr Z => cb (v fr Z) λ z Z1 => cb (o fr Z1) λ x Z2 => cb (i fr Z2) λ y Z3 => match nt x y z Z3 with
 | some Z4 => some ((.next, fr), Z4)
 | none => none
theorem ki {o i e : Expr} {p' p : Pos} {a b c : ag -> M PV} (ho : SE S d g ns o a) (hi : SE S d g ns i b) (he : SE S d g ns e c)
  (hs : ∀ env, swapsWith e (some (.Subscript o i p')) p.line env = pure false := by intro env; rfl) : SS S d g ns (.Assign [.Subscript o i p'] e p) (fw a b c) := by
 intro A env W fr Z s Q E f fr' Z' r gl T R F V e P
 refine ba e ?_; clear e; intro z Z1 e1 e
 refine ba e ?_; clear e; intro x Z2 e2 e
 refine ba e ?_; clear e; intro y Z3 e3 e
 split at e
 case h_2 => exact bG e
 rename_i Z4 hp
 cases e
 refine wpAny_Assign_Subscript (he A env W fr Z s _ E z _ r gl R F V e1 λ W1 vz h1 tk1 R1 t1 x1 => ?_) (hs env)
 refine ho A env W1 fr Z1 _ _ E x _ r gl R1 (F.trans t1) (V.trans F t1) e2 λ W2 vx h2 tk2 R2 t2 x2 => ?_
 have t12 := t1.comp t2
 refine hi A env W2 fr Z2 _ _ E y _ r gl R2 (F.trans t12) (V.trans F t12) e3 λ W3 vy h3 tk3 R3 t3 x3 => ?_
 refine AR R3 (t3.vr x2) x3 (t3.vr (t2.vr x1)) hp λ h4 tk4 R4 t4 hn => ?_
 have t : bE lO W Z.next s.heap W3 Z'.next h4 := by rw [hn]; exact (t12.comp t3).comp t4
 exact P W3 .next h4 tk4 R4 t.toX (F.trans t) (V.trans F t) trivial
def wD (o i : ag -> M PV) : ag -> M (FR × ag) := λ fr Z => cb (o fr Z) λ x Z1 => cb (i fr Z1) λ y Z2 => match nc x y Z2 with
 | some (_, Z3) => some ((.next, fr), Z3)
 | none => none
theorem zt {o i : Expr} {p' p : Pos} {a b : ag -> M PV} (ho : SE S d g ns o a) (hi : SE S d g ns i b) : SS S d g ns (.Delete [.Subscript o i p'] p) (wD a b) := by
 intro A env W fr Z s Q E f fr' Z' r gl T R F V e P
 refine ba e ?_; clear e; intro x Z1 e1 e
 refine ba e ?_; clear e; intro y Z2 e2 e
 split at e
 case h_2 => exact bG e
 rename_i pv Z3 hp
 refine yD e ?_; rintro rfl rfl rfl
 refine wpAny_Delete ?_
 show wpAny _ _ (delete (.Subscript o i p') env >>= λ _ => deleteEach [] env) _ _ _
 refine wpAny_bind (delete_Subscript ?_)
 refine ho A env W fr Z s _ E x _ r gl R F V e1 λ W1 vx h1 tk1 R1 t1 x1 => ?_
 refine hi A env W1 fr Z1 _ _ E y _ r gl R1 (F.trans t1) (V.trans F t1) e2 λ W2 vy h2 tk2 R2 t2 x2 => ?_
 have x1' := t2.vr x1
 have t12 := t1.comp t2
 unfold nc at hp
 split at hp
 case h_2 => exact bG hp
 split at hp
 case h_2 => exact bG hp
 rename_i i k _ es ho
 split at hp
 case h_2 => exact bG hp
 rename_i v hg
 refine gx hp ?_; rintro rfl rfl
 cases x1' with
 | ref i hi =>
 cases x2 with
 | int k t =>
 have O := R2.obj i hi
 rw [ho] at O
 obtain ⟨_, kvs, hl, hk, hv, hz⟩ := O
 obtain ⟨v', hh1, hh2⟩ := oR hk hv hg
 have hlen := sV hv
 unfold delItem
 try with_reducible refine wpAny_holding ?_
 refine wpAny_bind (wpAny_sequenceKey (s := { s with heap := h2, toks := tk2 }) hl.typeIs (by decide) ?_)
 refine wpAny_bind (wpAny_callSpecial?_slot (s := { s with heap := h2, toks := tk2 }) (name := Str.ofString "__delitem__") hl.typeIs PySem.F.slot_dict_delitem
  (call_meetsIn PySem.F.slot_dict_delitem hl.typeIs PySem.F.entry_dict_delitem (PySem.F.args_dict_delitem_2 _ _) (meets_dict_delitem_pairs (intKind S.prog S.w) (W2.ad i).1 (intKind_is S.prog S.w k t)) ⟨kvs, hl, (by rw [sizeLine_eq]; omega), (by rw [hh1]; rfl), λ h' hmm hs => ?_⟩))
 obtain ⟨r1, r2⟩ := xg k hk hv
 obtain ⟨R', t'⟩ := R2.setDict hi ho hs hmm (fs := lG es k) r1 r2 (Nat.le_trans (List.length_filter_le _ _) hz)
 refine wpAny_pure (wpAny_pure ?_)
 have tt := t12.comp t'
 exact P W2 .next h' _ R' tt.toX (F.trans tt) (V.trans F tt) trivial
end
section
variable {S : eP}
variable {d : Nat} {g : Gn} {ns : List Str}
noncomputable def Gh.freeze (W : Gh) (i : Nat) : Gh := { W with fz := λ j => decide (j = i) || W.fz j }
theorem dA.freeze {W : Gh} {Z : St} {h : Heap} (R : dA S W Z h) {i : Nat} (hi : i < Z.next) {o' : ee} (ho : iU S W Z.next h (W.ad i) o') (hk : (∃ es, o' = .fdict es) \/ ∃ vs, o' = .flist vs) :
  dA S (W.freeze i) (Z.set i o') h /\ bE lO W Z.next h (W.freeze i) Z.next h := by
 have own : ∀ b, qT (W.freeze i) Z.next b -> qT W Z.next b := by
  intro b qq1; refine cj qq1 λ j hj hf hb => ?_
  have : (decide (j = i) || W.fz j) = false := hf
  rw [Bool.or_eq_false_iff] at this
  exact fk j hj this.2 hb
 refine ⟨⟨R.base, λ j hj => ?_, R.apart, R.fresh, R.above, λ j hj hf => ?_, λ a o e => let t := R.tup a o e; ⟨t.1, λ q => t.2.1 (own a q), t.2.2⟩⟩,
  ⟨Nat.le_refl _, λ _ _ => rfl, λ _ _ e => e, λ j hj e => by show (decide (j = i) || W.fz j) = true; rw [e, Bool.or_true], λ b o e _ _ => e, λ b o e => ⟨o, e⟩, λ i h1 h2 => absurd h1 (Nat.not_le.mpr h2), λ _ e _ => e⟩⟩
 ·show iU S (W.freeze i) Z.next h (W.ad j) (if j = i then o' else Z.objs j)
  by_cases q : j = i
  ·subst q; rw [if_pos rfl]; exact ho.mono (Nat.le_refl _) (λ _ _ => rfl) (λ _ _ e => e) (λ _ e => e) (λ _ e => e)
  ·rw [if_neg q]; exact (R.obj j hj).mono (Nat.le_refl _) (λ _ _ => rfl) (λ _ _ e => e) (λ _ e => e) (λ _ e => e)
 ·show (∃ es, (if j = i then o' else Z.objs j) = _) \/ ∃ vs, (if j = i then o' else Z.objs j) = _
  by_cases q : j = i
  ·rw [if_pos q]; exact hk
  ·rw [if_neg q]
   have : (decide (j = i) || W.fz j) = true := hf
   simp only [q, decide_false, Bool.false_or] at this
   exact R.frz j hj this
noncomputable def lX (a b : Int) : List PV := (List.range (b - a).toNat).map λ (i : Nat) => .int (a + i)
def cn (x : PV) (Z : St) : Option (List PV × St) := match x with
 | .tup vs => if vs.length <= 1000 then some (vs, Z) else none
 | .rng a b => if -1000000 <= a /\ a <= 1000000 /\ -1000000 <= b /\ b <= 1000000 then some (lX a b, Z) else none
 | .ref i => (match Z.objs i with
  | .list vs => some (vs, Z.set i (.flist vs))
  | .flist vs => some (vs, Z)
  | .dict es => some (es.map (λ kv => .int kv.1), Z.set i (.fdict es))
  | .fdict es => some (es.map (λ kv => .int kv.1), Z)
  | _ => none)
 | _ => none
theorem yz {k : Int} {v : Value} (h : Value.isInt k v = true) : ∃ t, v = .int k t := by
 unfold Value.isInt at h
 split at h
 ·rename_i i t; exact ⟨t, by rw [beq_iff_eq.mp h]⟩
 ·cases h
structure mj (S : eP) (A : Around) (W : Gh) (n : Nat) (h : Heap) (h0 : Heap) (vs : List PV) (I : Addr) : Prop where
 ex : ∃ m fp P St, m = vs.length /\ Walks S.prog S.w A I fp [I] m P St /\ St 0 h /\ (∀ i h, St i h -> ∀ b ∈ fp, ∃ o, h.get? b = some o) /\ (∀ b ∈ fp, b = I \/ (∃ o, h0.get? b = some o /\ (∃ i, i < n /\ b = (W.ad i).1) /\ ¬ qT W n b) \/ (∃ o, W.T b = some o)) /\ (∀ b ∈ fp, ¬ qT W n b) /\
  (∀ j pv v, vs[j]? = some pv -> P j v -> VR W n pv v)
 fresh : h0.objs.size <= I
 here : ∃ o, h.get? I = some o
 size : I < h.objs.size
 tn : W.T I = none
theorem mj.of {A : Around} {W : Gh} {n : Nat} {h h0 : Heap} {vs : List PV} {I : Addr} {m : Nat} {fp : List Addr} {P : Nat -> Value -> Prop} {St : Nat -> Heap -> Prop} (a : m = vs.length) (b : Walks S.prog S.w A I fp [I] m P St) (c : St 0 h) (d : ∀ i h, St i h -> ∀ b ∈ fp, ∃ o, h.get? b = some o)
 (e : ∀ b ∈ fp, b = I \/ (∃ o, h0.get? b = some o /\ (∃ i, i < n /\ b = (W.ad i).1) /\ ¬ qT W n b) \/ (∃ o, W.T b = some o)) (f : ∀ b ∈ fp, ¬ qT W n b) (g : ∀ j pv v, vs[j]? = some pv -> P j v -> VR W n pv v) (i : h0.objs.size <= I) (j : ∃ o, h.get? I = some o) (k : I < h.objs.size) (l : W.T I = none) :
 mj S A W n h h0 vs I := ⟨⟨m, fp, P, St, a, b, c, d, e, f, g⟩, i, j, k, l⟩
theorem DT {x : Int} (h : -1000000 <= x) (k : x <= 2000000) : -2 ^ 63 <= x /\ x < 2 ^ 63 := ⟨Int.le_trans (by decide) h, Int.lt_of_le_of_lt k (by decide)⟩
theorem u8 {A : Around} {W : Gh} {Z Z' : St} {s : Shared} {Q : Value -> Shared -> Prop} {E : Value -> Shared -> Prop} {x : PV} {v : Value} {vs : List PV} (r : gF d A) (R : dA S W Z s.heap) (hx : VR W Z.next x v) (hi : cn x Z = some (vs, Z'))
  (P : ∀ W' I h', dA S W' Z' h' -> Z'.next = Z.next -> bE lO W Z.next s.heap W' Z'.next h' -> mj S A W' Z'.next h' s.heap vs I -> Q (.ref I) { s with heap := h' }) : wpAny (model S.prog S.w) A (pyIter v) Q E s := by
 have hTn : W.T s.heap.objs.size = none := by
  cases q : W.T s.heap.objs.size with
  | none => rfl
  | some o => exact absurd (Heap.lt_size (R.tup _ o q).1) (Nat.lt_irrefl _)
 have keep : ∀ (o : Obj) b ob, s.heap.get? b = some ob -> (s.heap.push o).get? b = some ob := λ o b ob e => Heap.get?_push_of_some _ e
 have listCase : ∀ {i : Nat} {va : Array Value} {W' : Gh} {Z2 : St}, i < Z.next -> s.heap.PlainList (W.ad i).1 va -> fy W Z.next vs va.toList -> dA S W' Z2 s.heap -> Z2.next = Z.next -> bE lO W Z.next s.heap W' Z.next s.heap -> W'.ad i = W.ad i -> W'.fz i = true -> W'.T = W.T -> Z2 = Z' ->
   wpAny (model S.prog S.w) A (pyIter (.ref (W.ad i).1)) Q E s := by
  intro i va W' Z2 hi' hl hv R' hn t had hfz hTW he
  subst he
  refine wpAny_pyIter_list hl.isList ?_
  obtain ⟨R2, t2⟩ := R'.keep (h' := s.heap.push { cls := .type "list_iterator", data := .fields #[.ref (W.ad i).1, .int 0 0] }) (keep _)
  obtain ⟨ol, hol⟩ := (R.obj i hi').some1
  have hne : (W.ad i).1 ≠ s.heap.objs.size := Nat.ne_of_lt (Heap.lt_size hol)
  have hnot : ¬ qT W' Z2.next (W.ad i).1 := by
   intro qq2; refine cj qq2 λ j hj hf hb => ?_
   have hj' : j < Z.next := hn ▸ hj
   by_cases q : j = i
   ·subst q; rw [hfz] at hf; cases hf
   ·have A1 := R'.apart i j (hn.symm ▸ hi') hj (Ne.symm q)
    rw [had] at A1
    rcases hb with hb | hb
    ·exact A1.1 hb
    ·exact A1.2.1 hb
  have hlen : vs.length = va.size := by have := hv.1; simpa using this
  rw [hn] at t2
  refine P W' _ _ R2 hn (by rw [hn]; exact t.comp t2) (mj.of (fp := [s.heap.objs.size, (W.ad i).1]) hlen.symm (Walks.list r.handled s.heap.objs.size (W.ad i).1 hne va) ⟨⟨_, Heap.get?_push_size _ rfl, rfl, rfl⟩, hl.isList.at λ o e => keep _ _ o e⟩ ?_ ?_ ?_ ?_ (Nat.le_refl _) ⟨_, Heap.get?_push_size _ rfl⟩ (by rw [Heap.size_push]; exact Nat.lt_succ_self _) (by rw [hTW]; exact hTn))
  ·intro j h qq3 b hb; refine bK qq3 λ qq4 qq5 => ?_; obtain ⟨o1, e1, _⟩ := qq4; obtain ⟨o2, e2, _⟩ := qq5
   rcases List.mem_cons.mp hb with rfl | hb
   ·exact ⟨_, e1⟩
   ·rw [List.mem_singleton.mp hb]; exact ⟨_, e2⟩
  ·intro b hb
   rcases List.mem_cons.mp hb with rfl | hb
   ·exact .inl rfl
   ·rw [List.mem_singleton.mp hb]; exact .inr (.inl ⟨ol, hol, ⟨i, hn.symm ▸ hi', by rw [had]⟩, hnot⟩)
  ·intro b hb
   rcases List.mem_cons.mp hb with rfl | hb
   ·intro q
    obtain ⟨o, ho⟩ := R'.ownSome q
    exact Nat.lt_irrefl _ (Heap.lt_size ho)
   ·rw [List.mem_singleton.mp hb]; exact hnot
  ·intro j pv v h1 h2
   have h2' : va[j]? = some v := h2
   rw [<- Array.getElem?_toList] at h2'
   rw [hn]
   exact t.vr (hv.2 j pv v h1 h2')
 have dictCase : ∀ {i : Nat} {es : List (Int × PV)} {kvs : List (Int × Value)} {W' : Gh} {Z2 : St}, i < Z.next -> s.heap.DictOf (intKind S.prog S.w) (W.ad i).1 kvs -> es.map (·.1) = kvs.map (·.1) -> vs = es.map (λ kv => .int kv.1) -> dA S W' Z2 s.heap -> Z2.next = Z.next -> bE lO W Z.next s.heap W' Z.next s.heap -> W'.ad i = W.ad i -> W'.fz i = true -> W'.T = W.T -> Z2 = Z' ->
   wpAny (model S.prog S.w) A (pyIter (.ref (W.ad i).1)) Q E s := by
  intro i es kvs W' Z2 hi' hl hk hvs R' hn t had hfz hTW he
  subst he
  obtain ⟨ep, hl⟩ := hl.dictAt
  have habove := R.above i hi'
  have hsys : ((W.ad i).1 == sysModules) = false := by
   have h1 : sysModules <= mainGlobals := by decide
   rw [beq_eq_false_iff_ne]; exact Nat.ne_of_gt (Nat.lt_of_le_of_lt h1 habove)
  refine wpAny_pyIter_dict hsys hl ?_
  obtain ⟨R2, t2⟩ := R'.keep (h' := s.heap.push { cls := .type "dict_keyiterator", data := .fields #[.ref (W.ad i).1, .int 0 0, .int kvs.length 0, .int ep 0] }) (keep _)
  obtain ⟨ol, hol⟩ := (R.obj i hi').some1
  have hne : (W.ad i).1 ≠ s.heap.objs.size := Nat.ne_of_lt (Heap.lt_size hol)
  have hnot : ¬ qT W' Z2.next (W.ad i).1 := by
   intro qq6; refine cj qq6 λ j hj hf hb => ?_
   have hj' : j < Z.next := hn ▸ hj
   by_cases q : j = i
   ·subst q; rw [hfz] at hf; cases hf
   ·have A1 := R'.apart i j (hn.symm ▸ hi') hj (Ne.symm q)
    rw [had] at A1
    rcases hb with hb | hb
    ·exact A1.1 hb
    ·exact A1.2.1 hb
  have hlen : vs.length = kvs.length := by
   have := congrArg List.length hk
   rw [hvs]; simpa using this
  rw [hn] at t2
  refine P W' _ _ R2 hn (by rw [hn]; exact t.comp t2) (mj.of (fp := [s.heap.objs.size, (W.ad i).1]) hlen.symm (Walks.dictKeys (knd := intKind S.prog S.w) r.handled s.heap.objs.size (W.ad i).1 hne kvs ep) ⟨⟨_, Heap.get?_push_size _ rfl, rfl, rfl⟩, hl.at' λ o e => keep _ _ o e⟩ ?_ ?_ ?_ ?_ (Nat.le_refl _) ⟨_, Heap.get?_push_size _ rfl⟩ (by rw [Heap.size_push]; exact Nat.lt_succ_self _) (by rw [hTW]; exact hTn))
  ·intro j h qq7 b hb; refine bK qq7 λ qq8 qq9 => ?_; obtain ⟨o1, e1, _⟩ := qq8; obtain ⟨o2, _, e2, _⟩ := qq9
   rcases List.mem_cons.mp hb with rfl | hb
   ·exact ⟨_, e1⟩
   ·rw [List.mem_singleton.mp hb]; exact ⟨_, e2⟩
  ·intro b hb
   rcases List.mem_cons.mp hb with rfl | hb
   ·exact .inl rfl
   ·rw [List.mem_singleton.mp hb]; exact .inr (.inl ⟨ol, hol, ⟨i, hn.symm ▸ hi', by rw [had]⟩, hnot⟩)
  ·intro b hb
   rcases List.mem_cons.mp hb with rfl | hb
   ·intro q
    obtain ⟨o, ho⟩ := R'.ownSome q
    exact Nat.lt_irrefl _ (Heap.lt_size ho)
   ·rw [List.mem_singleton.mp hb]; exact hnot
  ·intro j pv v h1 qq10; refine jn qq10 λ k y h2 h3 => ?_
   rw [hvs, List.getElem?_map] at h1
   obtain ⟨kv, h4, rfl⟩ := Option.map_eq_some_iff.mp h1
   have h5 : (es.map (·.1))[j]? = (kvs.map (·.1))[j]? := by rw [hk]
   rw [List.getElem?_map, List.getElem?_map, h4, h2] at h5
   cases ej h5
   obtain ⟨t, rfl⟩ := yz (show Value.isInt kv.1 v = true from h3)
   exact .int _ _
 unfold cn at hi
 split at hi
 ·rename_i ws
  split at hi
  case isFalse => exact bG hi
  rename_i hz
  cases hi
  cases hx with
  | tup ws vals a h1 h2 h3 =>
  have ht := (R.tup a _ h1)
  have hT : s.heap.IsTuple a vals.toArray := ⟨_, ht.1, rfl, 0, rfl⟩
  refine wpAny_pyIter_tuple hT ?_
  obtain ⟨R2, t2⟩ := R.keep (h' := s.heap.push { cls := .type "tuple_iterator", data := .fields #[.ref a, .int 0 0] }) (keep _)
  have hne : a ≠ s.heap.objs.size := Nat.ne_of_lt (Heap.lt_size ht.1)
  have hlen : vs.length = vals.toArray.size := by rw [List.size_toArray]; exact h2
  refine P W _ _ R2 rfl t2 (mj.of (fp := [s.heap.objs.size, a]) hlen.symm (Walks.tuple r.handled s.heap.objs.size a hne vals.toArray) ⟨⟨_, Heap.get?_push_size _ rfl, rfl, rfl⟩, hT.at λ o e => keep _ _ o e⟩ ?_ ?_ ?_ ?_ (Nat.le_refl _) ⟨_, Heap.get?_push_size _ rfl⟩ (by rw [Heap.size_push]; exact Nat.lt_succ_self _) hTn)
  ·intro j h qq11 b hb; refine bK qq11 λ qq12 qq13 => ?_; obtain ⟨o1, e1, _⟩ := qq12; obtain ⟨o2, e2, _⟩ := qq13
   rcases List.mem_cons.mp hb with rfl | hb
   ·exact ⟨_, e1⟩
   ·rw [List.mem_singleton.mp hb]; exact ⟨_, e2⟩
  ·intro b hb
   rcases List.mem_cons.mp hb with rfl | hb
   ·exact .inl rfl
   ·rw [List.mem_singleton.mp hb]; exact .inr (.inr ⟨_, h1⟩)
  ·intro b hb
   rcases List.mem_cons.mp hb with rfl | hb
   ·intro q
    obtain ⟨o, ho⟩ := R.ownSome q
    exact Nat.lt_irrefl _ (Heap.lt_size ho)
   ·rw [List.mem_singleton.mp hb]; exact ht.2.1
  ·intro j pv v e1 e2
   have e2' : vals.toArray[j]? = some v := e2
   rw [List.getElem?_toArray] at e2'
   exact h3 j pv v e1 e2'
 ·rename_i a b
  split at hi
  case isFalse => exact bG hi
  rename_i hz
  cases hi
  cases hx with
  | rng a b t u v rr h1 =>
  have ht := (R.tup rr _ h1)
  have hrs : Builtin.Range.rangeSize a b 1 = ((b - a).toNat : Int) := by
   unfold Builtin.Range.rangeSize
   rw [if_pos (by decide), Int.ediv_one]
   by_cases q : a < b
   · rw [if_pos q, Int.toNat_of_nonneg (Int.sub_nonneg_of_le (Int.le_of_lt q)), Int.sub_add_cancel]
   · rw [if_neg q, Int.toNat_of_nonpos (Int.sub_nonpos_of_le (Int.not_lt.mp q))]; rfl
  have hsmall : Builtin.Range.small a b 1 = true := by
   unfold Builtin.Range.small
   rw [hrs]
   unfold Builtin.Range.rangeFitsLong
   rw [if_pos (by decide)]
   simp only [Bool.and_eq_true, decide_eq_true_eq, Bool.or_eq_true]
   exact ⟨⟨⟨⟨DT hz.1 (Int.le_trans hz.2.1 (by decide)), DT hz.2.2.1 (Int.le_trans hz.2.2.2 (by decide))⟩, by decide⟩, DT (Int.le_trans (by decide) (Int.natCast_nonneg _)) (Int.ofNat_le.mpr (Int.toNat_le.mpr (Int.sub_le_sub hz.2.2.2 hz.1)))⟩, .inr (by rw [Int.sub_self, Int.add_zero]; exact DT hz.2.2.1 (Int.le_trans hz.2.2.2 (by decide)))⟩
  refine wpAny_pyIter_range (show IsRange s.heap rr a b 1 t u v from ht.1) hsmall ?_
  rw [hrs]
  obtain ⟨R2, t2⟩ := R.keep (h' := s.heap.push { cls := .type "range_iterator", data := .fields #[rawInt a, rawInt ((b - a).toNat : Int), rawInt 1] }) (keep _)
  have hlen : (lX a b).length = (b - a).toNat := by simp [lX]
  refine P W _ _ R2 rfl t2 (mj.of (fp := [s.heap.objs.size]) hlen.symm (Walks.range r.handled s.heap.objs.size a 1 (b - a).toNat) ?_ ?_ ?_ ?_ ?_ (Nat.le_refl _) ⟨_, Heap.get?_push_size _ rfl⟩ (by rw [Heap.size_push]; exact Nat.lt_succ_self _) hTn)
  ·show IsRangeIter _ _ _ _ _
   have e1 : a + ((0 : Nat) : Int) * 1 = a := Int.add_zero a
   have e2 : (((b - a).toNat : Nat) : Int) - ((0 : Nat) : Int) = ((b - a).toNat : Int) := Int.sub_zero _
   rw [e1, e2]; exact Heap.get?_push_size _ rfl
  ·intro j h st b hb
   rw [List.mem_singleton.mp hb]; exact ⟨_, st⟩
  ·intro b hb
   exact .inl (List.mem_singleton.mp hb)
  ·intro b hb
   rw [List.mem_singleton.mp hb]
   intro q
   obtain ⟨o, ho⟩ := R.ownSome q
   exact Nat.lt_irrefl _ (Heap.lt_size ho)
  ·rintro j pv v e1 ⟨t, rfl⟩
   unfold lX at e1
   rw [List.getElem?_map] at e1
   obtain ⟨jj, h4, rfl⟩ := Option.map_eq_some_iff.mp e1
   rw [List.getElem?_range] at h4
   ·cases h4
    have : a + (j : Int) * 1 = a + (j : Int) := by rw [Int.mul_one]
    rw [this]; exact .int _ _
   ·have := (List.getElem?_eq_some_iff.mp h4).1
    simpa using this
 ·rename_i i
  cases hx with
  | ref i hi' =>
  have O := R.obj i hi'
  split at hi
  ·rename_i ws ho
   cases hi
   have O' := O
   rw [ho] at O'
   obtain ⟨q, va, hl, hv, hz⟩ := O'
   obtain ⟨R', t'⟩ := R.freeze hi' (o' := .flist vs) ⟨q, va, hl, hv, hz⟩ (.inr ⟨_, rfl⟩)
   exact listCase hi' hl hv R' rfl t' rfl (by show (decide (i = i) || _) = true; simp) rfl rfl
  ·rename_i ws ho
   cases hi
   have O' := O
   rw [ho] at O'
   obtain ⟨q, va, hl, hv, hz⟩ := O'
   obtain ⟨R', t'⟩ := R.freeze hi' (o' := .flist vs) ⟨q, va, hl, hv, hz⟩ (.inr ⟨_, rfl⟩)
   have hset : Z.set i (.flist vs) = Z := by
    show St.mk _ _ = _
    have : (λ j => if j = i then ee.flist vs else Z.objs j) = Z.objs := by
     funext j
     by_cases q : j = i
     ·rw [if_pos q, q, ho]
     ·rw [if_neg q]
    rw [this]
   rw [hset] at R'
   exact listCase hi' hl hv R' rfl t' rfl (by show (decide (i = i) || _) = true; simp) rfl rfl
  ·rename_i es ho
   refine gx hi ?_; rintro rfl rfl
   have O' := O
   rw [ho] at O'
   obtain ⟨q, kvs, hl, hk, hv, hz⟩ := O'
   obtain ⟨R', t'⟩ := R.freeze hi' (o' := .fdict es) ⟨q, kvs, hl, hk, hv, hz⟩ (.inl ⟨_, rfl⟩)
   exact dictCase hi' hl hk rfl R' rfl t' rfl (by show (decide (i = i) || _) = true; simp) rfl rfl
  ·rename_i es ho
   refine gx hi ?_; rintro rfl rfl
   have O' := O
   rw [ho] at O'
   obtain ⟨q, kvs, hl, hk, hv, hz⟩ := O'
   obtain ⟨R', t'⟩ := R.freeze hi' (o' := .fdict es) ⟨q, kvs, hl, hk, hv, hz⟩ (.inl ⟨_, rfl⟩)
   have hset : Z.set i (.fdict es) = Z := by
    show St.mk _ _ = _
    have : (λ j => if j = i then ee.fdict es else Z.objs j) = Z.objs := by
     funext j
     by_cases q : j = i
     ·rw [if_pos q, q, ho]
     ·rw [if_neg q]
    rw [this]
   rw [hset] at R'
   exact dictCase hi' hl hk rfl R' rfl t' rfl (by show (decide (i = i) || _) = true; simp) rfl rfl
  ·exact bG hi
 ·exact bG hi
end
section
variable {S : eP}
variable {d : Nat} {g : Gn} {ns : List Str}
theorem dA.but {W : Gh} {Z : St} {h h' : Heap} {I : Addr} (R : dA S W Z h) (hA : ¬ Ac W Z.next I) (h0 : S.h₀.get? I = none) (hT : W.T I = none) (hs : ∀ b o, b ≠ I -> h.get? b = some o -> h'.get? b = some o) : dA S W Z h' :=
 ⟨λ b o e => hs b o (λ q => by rw [q, h0] at e; exact bG e) (R.base b o e),
  λ j hj => (R.obj j hj).mono (Nat.le_refl _) (λ _ _ => rfl) (λ _ _ e => e) (λ o e => hs _ o (λ q => hA ⟨j, hj, .inl q.symm⟩) e) (λ o e => hs _ o (λ q => hA ⟨j, hj, .inr q.symm⟩) e),
  R.apart, R.fresh, R.above, R.frz, λ a o e => ⟨hs a _ (λ q => by rw [q, hT] at e; exact bG e) (R.tup a o e).1, (R.tup a o e).2⟩⟩
theorem bE.but {X : Addr -> Prop} {W W' : Gh} {n n' : Nat} {h h1 h2 : Heap} {I : Addr} (t : bE X W n h W' n' h1) (h0 : h.get? I = none) (hs : ∀ b o, b ≠ I -> h1.get? b = some o -> h2.get? b = some o) : bE X W n h W' n' h2 :=
 ⟨t.nx, t.ad, t.T, t.fz, λ b o e n1 n2 => hs b o (λ q => by rw [q, h0] at e; exact bG e) (t.ext b o e n1 n2),
  λ b o e => let ⟨o', e'⟩ := t.dom b o e; ⟨o', hs b o' (λ q => by rw [q, h0] at e; exact bG e) e'⟩, t.new, t.Tn⟩
theorem lT.but {env : Env} {W : Gh} {n : Nat} {h h' : Heap} {I : Addr} (F : lT S env W n h) (hX : ¬ FX env I) (hs : ∀ b o, b ≠ I -> h.get? b = some o -> h'.get? b = some o) : lT S env W n h' := by
 refine br F.ns λ m hm => ?_
 refine ⟨F.kind, F.glob, F.bltn, ⟨m, hm.at' λ o e => hs _ o (λ q => hX (.inl q.symm)) e⟩, F.own, F.base, λ x c e => ?_, F.apart⟩
 refine bN (F.cell x c e) λ qq1 n1 n2 => ?_; obtain ⟨v, hv⟩ := qq1
 exact ⟨⟨v, Heap.IsCell.at' hv λ o e' => hs _ o (λ q => hX (.inr ⟨x, q ▸ e⟩)) e'⟩, n1, n2⟩
theorem ik.but {env : Env} {W : Gh} {n : Nat} {h h' : Heap} {I : Addr} {fr : ag} (V : ik env W n h ns fr) (hX : ¬ FX env I) (hs : ∀ b o, b ≠ I -> h.get? b = some o -> h'.get? b = some o) : ik env W n h' ns fr := by
 intro k x pv h1 h2
 refine aQ (V k x pv h1 h2) λ v hv hh => ?_
 refine cC v hv ?_
 rcases hh with ⟨a, m, b, c⟩ | ⟨a, c, b, e⟩
 ·exact .inl ⟨a, m, b.at' λ o e => hs _ o (λ q => hX (.inl q.symm)) e, c⟩
 ·exact .inr ⟨a, c, b, Heap.IsCell.at' e λ o e' => hs _ o (λ q => hX (.inr ⟨x, q ▸ b⟩)) e'⟩
theorem lT.fxSome {env : Env} {W : Gh} {n : Nat} {h : Heap} (F : lT S env W n h) {b : Addr} (hb : FX env b) : ∃ o, h.get? b = some o := by
 rcases hb with rfl | ⟨x, hx⟩
 ·refine Ew F.ns λ m o _ _ ho _ => ?_; exact ⟨o, ho⟩
 ·refine bK (F.cell x b hx) λ qq2 _ => ?_; obtain ⟨v, o, ho, _⟩ := qq2; exact ⟨o, ho⟩
noncomputable def gC (k : Nat) (b : ag -> M (FR × ag)) : List PV -> ag -> M (FR × ag)
 | [], fr, Z => some ((.next, fr), Z)
 | v :: vs, fr, Z => cb (b (fr.set k (some v)) Z) λ x Z1 => match x.1 with
   | .next => gC k b vs x.2 Z1
   | .ret p => some ((.ret p, x.2), Z1)
def eX (k : Nat) (a : ag -> M PV) (b : ag -> M (FR × ag)) : ag -> M (FR × ag) := λ fr Z => cb (a fr Z) λ x Z1 => match cn x Z1 with
 | some (vs, Z2) => gC k b vs fr Z2
 | none => none
theorem hG {x : Str} {p' p : Pos} {iter : Expr} {body : List Stmt} {a : ag -> M PV} {b : ag -> M (FR × ag)} (k : Nat) (ha : SE S d g ns iter a) (hb : SB S d g ns body b) (hx : ns[k]? = some x := by rfl)
  (hs : ∀ env v, foldedSetIterable iter env v = pure v := by intros; rfl) : SS S d g ns (.For (.Name x p') iter body [] p) (eX k a b) := by
 intro A env W fr Z s Q E f fr' Z' r gl T R F V e P
 refine ba e ?_; clear e; intro y Z1 e1 e
 split at e
 case h_2 => exact bG e
 rename_i vs Z2 hi
 refine wpAny_For (ha A env W fr Z s _ E y Z1 r gl R F V e1 λ W1 vy h1 tk1 R1 t1 x1 => u8 r R1 x1 hi λ W2 I h2 R2 hn t2 IA => ?_) (hs env)
 refine uH IA.ex λ m fp Pi St hm Wk hst hval hfp hown hP => ?_
 refine br IA.here λ oI hoI => ?_
 have hfresh := IA.fresh
 have hsz := IA.size
 have tn := IA.tn
 have hIfp : I ∈ fp := Wk.sub I (by simp)
 have hfr : h1.get? I = none := Heap.get?_none_of_le hfresh
 have t12 := t1.comp t2
 have F2 := F.trans t12
 have V2 := V.trans F t12
 have hI0 : s.heap.get? I = none := by
  cases q : s.heap.get? I with
  | none => rfl
  | some o => refine br (t1.dom I o q) λ o' e' => ?_; rw [hfr] at e'; exact bG e'
 have hIX : ¬ FX env I := λ q => by refine br ((F.trans t1).fxSome q) λ o e' => ?_; rw [hfr] at e'; exact bG e'
 have hIb : S.h₀.get? I = none := by
  cases q : S.h₀.get? I with
  | none => rfl
  | some o => have := R1.base I o q; rw [hfr] at this; exact bG this
 have hIA : ¬ Ac W2 Z2.next I := λ q => by
  rw [hn] at q
  refine aQ q λ i hi' hb' => ?_
  rw [t2.ad i hi'] at hb'
  refine br (R1.allSome ⟨i, hi', hb'⟩) λ o ho => ?_
  rw [hfr] at ho; exact bG ho
 have hIT : W2.T I = none := tn
 have tupNot : ∀ (W : Gh) (Z : Mine.St) (h : Heap) (b : Addr) (o : Obj), dA S W Z h -> lT S env W Z.next h -> W.T b = some o -> ¬ FX env b := by
  intro W Z h b o R F e q
  refine iH (R.tup b o e) λ ho _ _ him => ?_
  rcases q with rfl | ⟨x, hx⟩
  ·refine CH F.ns λ m o' _ _ ho' hd' _ => ?_
   rw [ho] at ho'; cases ej ho'
   rcases him with ⟨_, rfl⟩ | ⟨_, _, _, _, _, rfl⟩ | ⟨_, _, _, e⟩ <;> first | (cases hd'; done) | (rw [e] at hd'; cases hd')
  ·refine bK (F.cell x b hx) λ qq5 _ => ?_; obtain ⟨v, o', ho', hd'⟩ := qq5
   rw [ho] at ho'; cases ej ho'
   rcases him with ⟨_, rfl⟩ | ⟨_, _, _, _, _, rfl⟩ | ⟨_, _, _, e⟩ <;> first | (cases hd'; done) | (rw [e] at hd'; cases hd')
 have hfX : ∀ b ∈ fp, ¬ FX env b := by
  intro b hb' q
  rcases hfp b hb' with rfl | ⟨o, _, ⟨i, hi', rfl⟩, _⟩ | ⟨o, ho⟩
  ·exact hIX q
  ·rcases q with q | ⟨x, hx⟩
   ·exact F2.own ⟨i, hi', .inl q.symm⟩
   ·exact (F2.cell x _ hx).2.1 ⟨i, hi', .inl rfl⟩
  ·exact tupNot W2 Z2 h2 b o R2 F2 ho q
 refine aQ (zk (P := λ k' s' => ∃ j W3 fr3 Z3 h3 tk3, s' = { s with heap := h3, toks := tk3 } /\ dA S W3 Z3 h3 /\ bE (FX env) W Z.next s.heap W3 Z3.next h3 /\ lT S env W3 Z3.next h3 /\ ik env W3 Z3.next h3 ns fr3 /\ St j h3 /\
   (Z2.next <= Z3.next /\ (∀ i, i < Z2.next -> W3.ad i = W2.ad i) /\ ∀ a v, W2.T a = some v -> W3.T a = some v) /\ (∀ b ∈ fp, ¬ qT W3 Z3.next b) /\ (¬ Ac W3 Z3.next I /\ W3.T I = none) /\ j <= m /\ k' = m + 1 - j /\ gC k b (vs.drop j) fr3 Z3 = some ((f, fr'), Z'))) λ Inv mk0 el => ?_
 have mk : ∀ (j : Nat) (W3 : Gh) (fr3 : ag) (Z3 : Mine.St) (h3 : Heap) (tk3 : Nat), dA S W3 Z3 h3 -> bE (FX env) W Z.next s.heap W3 Z3.next h3 -> lT S env W3 Z3.next h3 -> ik env W3 Z3.next h3 ns fr3 -> St j h3 ->
   (Z2.next <= Z3.next /\ (∀ i, i < Z2.next -> W3.ad i = W2.ad i) /\ ∀ a v, W2.T a = some v -> W3.T a = some v) -> (∀ b ∈ fp, ¬ qT W3 Z3.next b) -> ¬ Ac W3 Z3.next I -> W3.T I = none -> j <= m -> gC k b (vs.drop j) fr3 Z3 = some ((f, fr'), Z') -> Inv (m + 1 - j) { s with heap := h3, toks := tk3 } := λ j W3 fr3 Z3 h3 tk3 a b c d e f g h i k l => mk0 _ _ ⟨j, W3, fr3, Z3, h3, tk3, rfl, a, b, c, d, e, f, g, ⟨h, i⟩, k, rfl, l⟩
 refine codeAny_forLoop Inv ?_ (m + 1) (mk 0 W2 fr Z2 h2 tk1 R2 t12.toX F2 V2 hst ⟨Nat.le_refl _, λ _ _ => rfl, λ _ _ e => e⟩ hown hIA hIT (Nat.zero_le _) e)
 intro k' s' qq1; refine FK (el _ _ qq1) λ j W3 fr3 Z3 h3 tk3 qq2 R3 t3 F3 V3 hst3 hmono hown3 qq3 hj qq4 e => ?_; obtain rfl := qq2; obtain ⟨hIA3, hIT3⟩ := qq3; obtain rfl := qq4
 have butOf : ∀ (h4 : Heap), (∀ b o, b ∉ [I] -> h3.get? b = some o -> h4.get? b = some o) -> ∀ b o, b ≠ I -> h3.get? b = some o -> h4.get? b = some o := λ h4 hk b o hb => hk b o (by simp [hb])
 by_cases hlt : j < m
 ·refine Wk.item j _ _ _ hlt hst3 λ v h4 tk4 hPv hst4 hk4 => ?_
  have hk := butOf h4 hk4
  have R4 := R3.but hIA3 hIb hIT3 hk
  have t4 := t3.but hI0 hk
  have F4 := F3.but hIX hk
  have V4 := V3.but hIX hk
  have hjv : j < vs.length := hm ▸ hlt
  have hget : vs[j]? = some vs[j] := by simp [hjv]
  rw [List.drop_eq_getElem_cons hjv] at e
  refine eY e ?_; clear e; intro f1 fr1 Z5 e5 e
  have hv : VR W3 Z3.next vs[j] v := (hP j vs[j] v hget hPv).mono hmono.1 hmono.2.1 hmono.2.2
  refine wpAny_assign_Name (kj T R4 F4 V4 hx hv λ h5 tk5 R5 t5 F5 V5 => ?_)
  refine hb A env W3 _ Z3 _ _ _ f1 fr1 Z5 r gl T R5 F5 V5 e5 λ W6 f6 h6 tk6 R6 t6 F6 V6 hf => ?_
  have t56 : bE (FX env) W3 Z3.next h4 W6 Z5.next h6 := t5.comp t6
  have t := t4.comp t56
  cases f1 with
  | next =>
   cases f6 with
   | next =>
    refine ⟨m + 1 - (j + 1), by lia, mk (j + 1) W6 fr1 Z5 h6 tk6 R6 t F6 V6 ?_ ⟨Nat.le_trans hmono.1 t56.nx, λ i hi' => (t56.ad i (Nat.lt_of_lt_of_le hi' hmono.1)).trans (hmono.2.1 i hi'), λ a v q => t56.T a v (hmono.2.2 a v q)⟩ ?_ ?_ ?_ hlt e⟩
    ·exact Wk.frame _ _ _ hst4 λ b hb' o e' => t56.ext b o e' (hown3 b hb') (hfX b hb')
    ·intro b hb' q
     refine br (hval _ _ hst4 b hb') λ o ho => ?_
     exact hown3 b hb' (t56.own_back ho q)
    ·intro q
     refine br (hval _ _ hst4 I (hIfp)) λ o ho => ?_
     exact hIA3 (t56.all_back ho q)
    ·exact t56.Tn I hIT3 (hval _ _ hst4 I hIfp)
   | _ => exact hf.elim
  | ret v =>
   refine yD e ?_; rintro rfl rfl rfl
   cases f6 with
   | ret vv => exact P W6 (.ret vv) h6 tk6 R6 t F6 V6 hf
   | _ => exact hf.elim
 ·have hjm : j = m := by lia
  subst hjm
  refine Wk.done _ _ _ hst3 λ h4 tk4 hk4 => wpAny_execs_nil ?_
  have hk := butOf h4 hk4
  rw [List.drop_eq_nil_of_le (by lia)] at e
  refine yD e ?_; rintro rfl rfl rfl
  exact P W3 .next h4 tk4 (R3.but hIA3 hIb hIT3 hk) (t3.but hI0 hk) (F3.but hIX hk) (V3.but hIX hk) trivial
end
section
variable {S : eP}
variable {d : Nat} {g : Gn} {ns : List Str}
noncomputable def mK (env : Env) : List (Str × NameKind) -> List (Str × Addr) -> List (Str × Addr)
 | [], acc => acc
 | (n, k) :: r, acc => if k == .free then mK env r ((n, (env.cells.lookup n).getD 0) :: acc) else mK env r acc
theorem zo {env : Env} : ∀ (names : List (Str × NameKind)) (acc : List (Str × Addr)), (∀ y ∈ names, y.2 = .free -> ∃ c, env.cells.lookup y.1 = some c) ->
  (forIn names acc (λ (y : Str × NameKind) (r : List (Str × Addr)) => (if (y.2 == .free) = true then (cellOf env y.1 >>= λ c => pure (ForInStep.yield ((y.1, c) :: r))) else pure (ForInStep.yield r) : Sem (ForInStep (List (Str × Addr)))))) = pure (mK env names acc) := by
 intro names
 induction names with
 | nil => intro acc _; rfl
 | cons p r ih =>
  obtain ⟨n, k⟩ := p
  intro acc h
  rw [List.forIn_cons]
  have h' : ∀ y ∈ r, y.2 = .free -> ∃ c, env.cells.lookup y.1 = some c := λ y hy => h y (List.mem_cons_of_mem _ hy)
  unfold mK
  by_cases q : (k == NameKind.free) = true
  ·refine br (h (n, k) (List.mem_cons_self ..) (beq_iff_eq.mp q)) λ c hc => ?_
   simp only [q, if_true]
   unfold cellOf
   rw [hc]
   exact ih _ h'
  ·simp only [q, if_false]
   exact ih _ h'
theorem nk {env : Env} {scope : Scope} (h : ∀ y ∈ scope.names, y.2 = .free -> ∃ c, env.cells.lookup y.1 = some c) : closureFor scope env = pure (mK env scope.names []) := by
 have := zo (env := env) scope.names [] h
 unfold closureFor
 simp only [bind_pure]
 rw [<- this]
theorem CD {env : Env} : ∀ (names : List (Str × NameKind)) (acc : List (Str × Addr)), (∀ y ∈ names, y.2 = .free -> ∃ c, env.cells.lookup y.1 = some c) -> (∀ x c, acc.lookup x = some c -> env.cells.lookup x = some c) ->
  ∀ x c, (mK env names acc).lookup x = some c -> env.cells.lookup x = some c := by
 intro names
 induction names with
 | nil => intro acc _ h; exact h
 | cons p r ih =>
  obtain ⟨n, k⟩ := p
  intro acc h ha
  have h' : ∀ y ∈ r, y.2 = .free -> ∃ c, env.cells.lookup y.1 = some c := λ y hy => h y (List.mem_cons_of_mem _ hy)
  unfold mK
  split
  ·rename_i q
   refine br (h (n, k) (List.mem_cons_self ..) (beq_iff_eq.mp q)) λ c hc => ?_
   refine ih _ h' λ x c' e => ?_
   rw [List.lookup_cons] at e
   cases z : x == n with
   | true => rw [z] at e; dsimp only at e; rw [hc] at e; cases ej e; rw [beq_iff_eq.mp z]; exact hc
   | false => rw [z] at e; exact ha x c' e
  ·exact ih _ h' ha
theorem Da {env : Env} : ∀ (names : List (Str × NameKind)) (acc : List (Str × Addr)) (x : Str), ((∃ c, acc.lookup x = some c) \/ (x, NameKind.free) ∈ names) -> ∃ c, (mK env names acc).lookup x = some c := by
 intro names
 induction names with
 | nil => intro acc x h; rcases h with h | h; exact h; simp at h
 | cons p r ih =>
  obtain ⟨n, k⟩ := p
  intro acc x h
  unfold mK
  split
  ·rename_i q
   refine ih _ x ?_
   by_cases z : x = n
   ·subst z; exact .inl ⟨_, by rw [List.lookup_cons, beq_self_eq_true]⟩
   ·rcases h with ⟨c, h⟩ | h
    ·exact .inl ⟨c, by rw [List.lookup_cons, beq_false_of_ne z]; exact h⟩
    ·rcases List.mem_cons.mp h with h | h
     ·cases h; exact absurd rfl z
     ·exact .inr h
  ·rename_i q
   refine ih _ x ?_
   rcases h with h | h
   ·exact .inl h
   ·rcases List.mem_cons.mp h with h | h
    ·cases h; exact absurd rfl q
    ·exact .inr h
theorem jq {env : Env} : ∀ {names : List (Str × NameKind)} {x : Str} {k : NameKind}, names.lookup x = some k ->
  (names.map λ (n, k) => if (k == NameKind.free && env.scope.kind == .function && env.kindOf n == some .cell) then (n, NameKind.cell) else (n, k)).lookup x = some k \/
  (k = .free /\ (names.map λ (n, k) => if (k == NameKind.free && env.scope.kind == .function && env.kindOf n == some .cell) then (n, NameKind.cell) else (n, k)).lookup x = some .cell)
 | [], _, _, h => by simp at h
 | (n, k0) :: r, x, k, h => by
  have ih := @jq env r x k
  show List.lookup x ((if (k0 == NameKind.free && env.scope.kind == .function && env.kindOf n == some .cell) = true then (n, NameKind.cell) else (n, k0)) :: List.map _ r) = _ \/
   _ /\ List.lookup x ((if (k0 == NameKind.free && env.scope.kind == .function && env.kindOf n == some .cell) = true then (n, NameKind.cell) else (n, k0)) :: List.map _ r) = _
  by_cases hx : x = n
  ·subst hx
   rw [List.lookup_cons, beq_self_eq_true] at h
   cases ej h
   by_cases hc : (k0 == NameKind.free && env.scope.kind == .function && env.kindOf x == some .cell) = true
   ·rw [if_pos hc]
    refine .inr ⟨?_, ?_⟩
    ·rw [Bool.and_eq_true, Bool.and_eq_true] at hc; exact beq_iff_eq.mp hc.1.1
    ·rw [List.lookup_cons, beq_self_eq_true]
   ·rw [if_neg hc]
    refine .inl ?_
    rw [List.lookup_cons, beq_self_eq_true]
  ·have hb : (x == n) = false := beq_false_of_ne hx
   rw [List.lookup_cons, hb] at h
   by_cases hc : (k0 == NameKind.free && env.scope.kind == .function && env.kindOf n == some .cell) = true
   ·rw [if_pos hc, List.lookup_cons, hb]; exact ih h
   ·rw [if_neg hc, List.lookup_cons, hb]; exact ih h
noncomputable def rh (scope : Scope) (g : Gn) (ns : List Str) (keep : List Bool) (x : Str) (g' : Gn) : Bool :=
 scope.kind == .function && scope.names.all (λ y => y.2 != .cell) && scope.names.all (λ y => y.2 != .local || scope.names.lookup y.1 == some .local) && scope.names.lookup x == some .local &&
 g'.glob.all (λ y => scope.names.lookup y == some .globalImplicit) && g'.cell.isEmpty && scope.names.all (λ y => y.2 != .free || g.cell.contains y.1) &&
 (ns.zip keep).all (λ y => !y.2 || (scope.names.lookup y.1 == some .free && scope.names.contains (y.1, .free)))
structure sz (scope : Scope) (g : Gn) (ns : List Str) (keep : List Bool) (x : Str) (g' : Gn) : Prop where
 kind : scope.kind = .function
 noCell : ∀ y ∈ scope.names, y.2 ≠ .cell
 names : ∀ y ∈ scope.names, y.2 = .local -> scope.names.lookup y.1 = some .local
 target : scope.names.lookup x = some .local
 glob : ∀ y ∈ g'.glob, scope.names.lookup y = some .globalImplicit
 cell : g'.cell = []
 free : ∀ y ∈ scope.names, y.2 = .free -> y.1 ∈ g.cell
 keep : ∀ (k : Nat) (y : Str), ns[k]? = some y -> keep[k]? = some true -> scope.names.lookup y = some .free /\ (y, NameKind.free) ∈ scope.names
theorem sz.of {scope : Scope} {g : Gn} {ns : List Str} {keep : List Bool} {x : Str} {g' : Gn} (h : rh scope g ns keep x g' = true) : sz scope g ns keep x g' := by
 simp only [rh, Bool.and_eq_true, List.all_eq_true, bne_iff_ne, ne_eq, Bool.or_eq_true, beq_iff_eq, List.isEmpty_iff, Bool.not_eq_true', List.contains_iff_mem] at h
 obtain ⟨⟨⟨⟨⟨⟨⟨h1, h2⟩, h3⟩, h4⟩, h5⟩, h6⟩, h7⟩, h8⟩ := h
 refine ⟨h1, h2, λ y hy e => (h3 y hy).resolve_left (λ q => q e), h4, h5, h6, λ y hy e => (h7 y hy).resolve_left (λ q => q e), λ k y e1 e2 => ?_⟩
 have : (y, true) ∈ ns.zip keep := List.mem_of_getElem? (i := k) (by rw [List.getElem?_zip_eq_some]; exact ⟨e1, e2⟩)
 exact (h8 _ this).resolve_left (by simp)
noncomputable def gf : List Bool -> ag -> ag
 | b :: bs, v :: fr => (if b then v else none) :: gf bs fr
 | _, _ => []
theorem uS : ∀ {bs : List Bool} {fr : ag} {k : Nat} {pv : PV}, (gf bs fr)[k]? = some (some pv) -> bs[k]? = some true /\ fr[k]? = some (some pv)
 | b :: bs, v :: fr, 0, pv, h => by
  simp only [gf, List.getElem?_cons_zero, Option.some.injEq] at h |-
  cases b with
  | true => exact ⟨rfl, by simpa using h⟩
  | false => simp at h
 | b :: bs, v :: fr, k + 1, pv, h => by
  simp only [gf, List.getElem?_cons_succ] at h |-
  exact uS h
 | [], _, _, _, h => by simp [gf] at h
 | _ :: _, [], _, _, h => by simp [gf] at h
noncomputable def gj (t : ag -> M Bool) (e : ag -> M PV) (fr : ag) : List PV -> List PV -> St -> Option (List PV × St)
 | [], acc, Z => some (acc, Z)
 | v :: vs, acc, Z => cb (t (some v :: fr) Z) λ b Z1 => if b then cb (e (some v :: fr) Z1) λ y Z2 => if acc.length < 1000 then gj t e fr vs (acc ++ [y]) Z2 else none else gj t e fr vs acc Z1
def dV (keep : List Bool) (a : ag -> M PV) (t : ag -> M Bool) (e : ag -> M PV) : ag -> M PV := λ fr Z => cb (a fr Z) λ x Z1 => match cn x Z1 with
 | some (vs, Z2) => cb (gj t e (gf keep fr) vs [] Z2) λ ys Z3 => nP ys Z3
 | none => none
def sL (S : eP) (d : Nat) (g : Gn) (ns : List Str) (ifs : List Expr) (m : ag -> M Bool) : Prop :=
 ∀ (A : Around) (env : Env) (W : Gh) (fr : ag) (Z : St) (s : Shared) (Q : Bool -> Shared -> Prop) (E : Value -> Shared -> Prop) (b : Bool) (Z' : St),
  gF d A -> GL g env -> dA S W Z s.heap -> lT S env W Z.next s.heap -> ik env W Z.next s.heap ns fr -> m fr Z = some (b, Z') -> qj S W Z.next s b Z' Q ->
  wpAny (model S.prog S.w) A (forIn ifs true λ c r => if r = true then do let ok <- isTrue c env (eval c env); pure (ForInStep.yield ok) else pure (ForInStep.yield r)) Q E s
theorem jx : sL S d g ns [] cR := by
 intro A env W fr Z s Q E b Z' r gl R F V e P
 refine gx e ?_; rintro rfl rfl
 exact wpAny_tests_nil (P.here R s.toks)
theorem gw {c : Expr} {t : ag -> M Bool} (h : ST S d g ns c t) : sL S d g ns [c] t := by
 intro A env W fr Z s Q E b Z' r gl R F V e P
 exact wpAny_tests_one (h A env W fr Z s Q E b Z' r gl R F V e P)
structure q8 (S : eP) (W : Gh) (n : Nat) (a : Addr) : Prop where
 own : ¬ Ac W n a
 tup : W.T a = none
 base : S.h₀.get? a = none
theorem q8.trans {X : Addr -> Prop} {W W' : Gh} {n n' : Nat} {h h' : Heap} {a : Addr} (o : q8 S W n a) (t : bE X W n h W' n' h') (he : ∃ o, h.get? a = some o) : q8 S W' n' a :=
 ⟨λ q => (br he λ _ e => o.own (t.all_back e q)), t.Tn a o.tup he, o.base⟩
theorem q8.new {W : Gh} {Z : St} {h : Heap} (R : dA S W Z h) {a : Addr} (ha : h.get? a = none) : q8 S W Z.next a := by
 refine ⟨λ q => ?_, ?_, ?_⟩
 ·obtain ⟨o, e⟩ := R.allSome q; rw [ha] at e; exact bG e
 ·cases q : W.T a with
  | none => rfl
  | some o => have := (R.tup a o q).1; rw [ha] at this; exact bG this
 ·cases q : S.h₀.get? a with
  | none => rfl
  | some o => have := R.base a o q; rw [ha] at this; exact bG this
theorem dA.but' {W : Gh} {Z : St} {h h' : Heap} {I : Addr} (R : dA S W Z h) (o : q8 S W Z.next I) (hs : ∀ b o, b ≠ I -> h.get? b = some o -> h'.get? b = some o) : dA S W Z h' := R.but o.own o.base o.tup hs
theorem dA.adopt {X : Addr -> Prop} {W W0 : Gh} {n0 : Nat} {h0 : Heap} {Z : St} {h : Heap} (R : dA S W Z h) (t : bE X W0 n0 h0 W Z.next h) {a : Addr} {vs : List PV} {vals : Array Value} (o : q8 S W Z.next a) (h0n : h0.get? a = none) (hl : h.PlainList a vals) (hv : fy W Z.next vs vals.toList) (hz : vs.length <= 1000) (hab : mainGlobals < a) :
  dA S (W.add Z.next (a, a)) (Z.push (.list vs)) h /\ bE X W0 n0 h0 (W.add Z.next (a, a)) (Z.next + 1) h /\ VR (W.add Z.next (a, a)) (Z.next + 1) (.ref Z.next) (.ref a) := by
 have had : ∀ j, j < Z.next -> (W.add Z.next (a, a)).ad j = W.ad j := λ j hj => if_neg (Nat.ne_of_lt hj)
 have hfz : ∀ j, j < Z.next -> (W.add Z.next (a, a)).fz j = W.fz j := λ j hj => if_neg (Nat.ne_of_lt hj)
 have e : (W.add Z.next (a, a)).ad Z.next = (a, a) := if_pos rfl
 have ne1 : ∀ j, j < Z.next -> (W.ad j).1 ≠ a /\ (W.ad j).2 ≠ a := λ j hj => ⟨λ q => o.own ⟨j, hj, .inl q.symm⟩, λ q => o.own ⟨j, hj, .inr q.symm⟩⟩
 refine ⟨⟨R.base, λ j hj => ?_, λ i j hi hj hij => ?_, λ j hj => ?_, λ j hj => ?_, λ j hj hf => ?_, λ b ob e' => ?_⟩,
  ⟨Nat.le_trans t.nx (Nat.le_succ _), λ i hi => (had i (Nat.lt_of_lt_of_le hi t.nx)).trans (t.ad i hi), t.T, λ i hi q => (hfz i (Nat.lt_of_lt_of_le hi t.nx)).trans (t.fz i hi q), t.ext, t.dom, λ i h1 h2 => ?_, t.Tn⟩, ?_⟩
 ·show iU S _ (Z.next + 1) h _ (if j = Z.next then _ else Z.objs j)
  by_cases q : j = Z.next
  ·subst q
   rw [e, if_pos rfl]
   exact ⟨rfl, _, hl, hv.mono (Nat.le_succ _) had λ _ _ e => e, hz⟩
  ·have hj' : j < Z.next := by have : j < Z.next + 1 := hj; exact Nat.lt_of_le_of_ne (Nat.le_of_lt_succ (by assumption)) (by assumption)
   rw [if_neg q, had j hj']
   exact (R.obj j hj').mono (Nat.le_succ _) had (λ _ _ e => e) (λ _ e => e) (λ _ e => e)
 ·by_cases q : i = Z.next
  ·subst q
   have hj' : j < Z.next := by have : j < Z.next + 1 := hj; lia
   rw [e, had j hj']
   have := ne1 j hj'
   exact ⟨Ne.symm this.1, Ne.symm this.2, Ne.symm this.2⟩
  ·have hi' : i < Z.next := by have : i < Z.next + 1 := hi; exact Nat.lt_of_le_of_ne (Nat.le_of_lt_succ (by assumption)) (by assumption)
   by_cases q2 : j = Z.next
   ·subst q2
    rw [e, had i hi']
    have := ne1 i hi'
    exact ⟨this.1, this.1, this.2⟩
   ·have hj' : j < Z.next := by have : j < Z.next + 1 := hj; exact Nat.lt_of_le_of_ne (Nat.le_of_lt_succ (by assumption)) (by assumption)
    rw [had i hi', had j hj']
    exact R.apart i j hi' hj' hij
 ·by_cases q : j = Z.next
  ·subst q; rw [e]; exact ⟨o.base, o.base⟩
  ·have hj' : j < Z.next := by have : j < Z.next + 1 := hj; exact Nat.lt_of_le_of_ne (Nat.le_of_lt_succ (by assumption)) (by assumption)
   rw [had j hj']; exact R.fresh j hj'
 ·by_cases q : j = Z.next
  ·subst q; rw [e]; exact hab
  ·have hj' : j < Z.next := by have : j < Z.next + 1 := hj; exact Nat.lt_of_le_of_ne (Nat.le_of_lt_succ (by assumption)) (by assumption)
   rw [had j hj']; exact R.above j hj'
 ·by_cases q : j = Z.next
  ·subst q
   have : (W.add Z.next (a, a)).fz Z.next = false := if_pos rfl
   rw [this] at hf; cases hf
  ·have hj' : j < Z.next := by have : j < Z.next + 1 := hj; exact Nat.lt_of_le_of_ne (Nat.le_of_lt_succ (by assumption)) (by assumption)
   rw [hfz j hj'] at hf
   show (∃ es, (if j = Z.next then _ else Z.objs j) = _) \/ ∃ vs, (if j = Z.next then _ else Z.objs j) = _
   rw [if_neg q]; exact R.frz j hj' hf
 ·have tt := R.tup b ob e'
  refine ⟨tt.1, λ q => ?_, tt.2.2⟩
  refine cj q λ j hj hf hb => ?_
  by_cases q : j = Z.next
  ·subst q
   rw [e] at hb
   have : b = a := by rcases hb with hb | hb <;> exact hb
   rw [this] at e'
   have z : W.T a = some ob := e'
   rw [o.tup] at z; exact bG z
  ·have hj' : j < Z.next := by have : j < Z.next + 1 := hj; exact Nat.lt_of_le_of_ne (Nat.le_of_lt_succ (by assumption)) (by assumption)
   rw [had j hj'] at hb
   rw [hfz j hj'] at hf
   exact tt.2.1 ⟨j, hj', hf, hb⟩
 ·by_cases q : i = Z.next
  ·subst q; rw [e]; exact ⟨h0n, h0n⟩
  ·have hi' : i < Z.next := by exact Nat.lt_of_le_of_ne (Nat.le_of_lt_succ (by assumption)) (by assumption)
   rw [had i hi']; exact t.new i h1 hi'
 ·have := VR.ref (W := W.add Z.next (a, a)) (n := Z.next + 1) Z.next (Nat.lt_succ_self _)
  rwa [e] at this
end
section
variable {S : eP}
variable {d : Nat} {g : Gn} {ns : List Str}
theorem uR {A : Around} {env : Env} {W0 W2 : Gh} {n0 : Nat} {h0 hb : Heap} {fr : ag} {Z2 Ze : Mine.St} {s : Shared} {E : Value -> Shared -> Prop} {x : Str} {px : Pos} {elt iter : Expr} {ifs : List Expr} {scope : Scope} {pos : Pos} {keep : List Bool} {g' : Gn}
  {t : ag -> M Bool} {e : ag -> M PV} {vs ys : List PV} {I : Addr} {RR : Value -> Addr -> Result -> Shared -> Prop}
  (r : gF d A) (ok : sz scope g ns keep x g') (gl : GL g env) (F : lT S env W0 n0 h0) (V : ik env W0 n0 h0 ns fr) (T : bE lO W0 n0 h0 W2 Z2.next s.heap) (R : dA S W2 Z2 s.heap) (IA : mj S A W2 Z2.next s.heap hb vs I) (hI0 : h0.get? I = none) (hIo : q8 S W2 Z2.next I)
  (ht : sL S d g' (x :: ns) ifs t) (he : SE S d g' (x :: ns) elt e) (hr : gj t e (gf keep fr) vs [] Z2 = some (ys, Ze))
  (hRR : ∀ W' D C h' tk m' vals, dA S W' Ze h' -> bE lO W0 n0 h0 W' Ze.next h' -> h'.Ns C m' -> h'.PlainList D vals -> fy W' Ze.next ys vals.toList -> ys.length <= 1000 -> q8 S W' Ze.next D -> q8 S W' Ze.next C -> h0.get? D = none -> h0.get? C = none -> D ≠ C -> mainGlobals < D ->
   RR (.ref D) C (.ok .next) { s with heap := h', toks := tk }) :
  wpAny (model S.prog S.w) A (newList []) (λ acc s₃ => wpAny (model S.prog S.w) A (newFunctionEnv scope env.globals (mK env scope.names []) [] env.qual none .none (some env)) (λ cenv s₄ =>
   codeAny (model S.prog S.w) A (.compStart (.ListComp elt [⟨.Name x px, iter, ifs, 0⟩] scope pos) 0 (.ref I) acc { cenv with scope := relabel scope env }) (RR acc cenv.locals) s₄) E s₃) E s := by
 refine uH IA.ex λ m fp Pi St hm Wk hst hval hfp hown hP => ?_
 refine br IA.here λ oI hoI => ?_
 have hfresh := IA.fresh
 have hsz := IA.size
 have tn := IA.tn
 have hIfp : I ∈ fp := Wk.sub I (by simp)
 have hfree : ∀ y ∈ scope.names, y.2 = .free -> ∃ c, env.cells.lookup y.1 = some c := λ y hy q => (gl.cell _ (ok.free y hy q)).2
 have hmg : mainGlobals < s.heap.objs.size := (S.T.g.keeps R.base).lt
 refine wpAny_newObj_type (wpAny_newFunctionEnv ok.noCell (by intro y hy; simp at hy) (λ h₁ hns₁ hsb₁ => ?_) ok.kind)
 dsimp only at hns₁ hsb₁ |-
 generalize hH2 : s.heap.push { cls := .type "list", dict := none, data := .seq ([] : List Value).toArray } = H2 at hns₁ hsb₁ |-; revert H2; refine qQ ?_; intro H2 hH2 hns₁ hsb₁
 have hC : H2.objs.size = s.heap.objs.size + 1 := by rw [<- hH2, Heap.size_push]
 generalize hCe : H2.objs.size = C at hns₁ hsb₁ hC |-; revert C; refine qQ ?_; intro C hCe hns₁ hsb₁ hC
 generalize hDe : s.heap.objs.size = D at hC hmg hsz |-; revert D; refine qQ ?_; intro D hDe hC hmg hsz
 have hD1 : s.heap.objs.size <= D := Nat.le_of_eq hDe
 have hD2 : D <= s.heap.objs.size := Nat.le_of_eq hDe.symm
 have hC1 : s.heap.objs.size + 1 <= C := Nat.le_trans (Nat.succ_le_succ hD1) (Nat.le_of_eq hC.symm)
 have hDC : D ≠ C := Nat.ne_of_lt (Nat.lt_of_lt_of_le (Nat.lt_succ_of_le hD2) hC1)
 have hDn : s.heap.get? D = none := Heap.get?_none_of_le hD1
 have hCn : s.heap.get? C = none := Heap.get?_none_of_le (Nat.le_of_succ_le hC1)
 have h0of : ∀ a, s.heap.get? a = none -> h0.get? a = none := λ a ha => by
  cases q : h0.get? a with
  | none => rfl
  | some o => obtain ⟨o', e'⟩ := T.dom a o q; rw [ha] at e'; exact bG e'
 have hD0 := h0of D hDn
 have hC0 := h0of C hCn
 have hDI : D ≠ I := Ne.symm (Nat.ne_of_lt hsz)
 have hCI : C ≠ I := Ne.symm (Nat.ne_of_lt (Nat.lt_of_lt_of_le hsz (Nat.le_trans hD2 (Nat.le_of_succ_le hC1))))
 have below : ∀ b, b < s.heap.objs.size -> b ≠ C /\ b ≠ D := λ b hb => ⟨Nat.ne_of_lt (Nat.lt_of_lt_of_le hb (Nat.le_of_succ_le hC1)), Nat.ne_of_lt (Nat.lt_of_lt_of_le hb hD1)⟩
 have old : ∀ b o, s.heap.get? b = some o -> h₁.get? b = some o := λ b o e => hsb₁.extBut b o (below b (Heap.lt_size e)).1 (Heap.get?_push_of_some _ (hH2 ▸ Heap.get?_push_of_some _ e))
 have hacc : h₁.PlainList D #[] := ⟨_, hsb₁.extBut _ _ hDC (Heap.get?_push_of_some _ (hH2 ▸ hDe ▸ Heap.get?_push_size _ rfl))⟩
 have hst₁ : St 0 h₁ := Wk.frame _ _ _ hst λ b _ o e => old b o e
 have hfpo : ∀ b ∈ fp, b ≠ C /\ b ≠ D := λ b hb => by
  obtain ⟨o, ho⟩ := hval _ _ hst b hb
  exact below b (Heap.lt_size ho)
 obtain ⟨R1, T1⟩ := R.keep old
 have T01 := T.comp T1
 have oC : q8 S W2 Z2.next C := .new R hCn
 have oD : q8 S W2 Z2.next D := .new R hDn
 have hcsub : ∀ y c, (mK env scope.names []).lookup y = some c -> env.cells.lookup y = some c := CD scope.names [] hfree (λ x c h => by exact bG h)
 have FC : ∀ (W3 : Gh) (n3 : Nat) (h3 : Heap), bE lO W0 n0 h0 W3 n3 h3 -> (∃ m, h3.Ns C m) -> q8 S W3 n3 C -> lT S (compEnvC scope (mK env scope.names []) C env) W3 n3 h3 := by
  intro W3 n3 h3 t hn o
  refine ⟨ok.kind, F.glob, F.bltn, hn, o.own, o.base, λ y c hy => ?_, λ y z c h1 h2 => F.apart y z c (hcsub y c h1) (hcsub z c h2)⟩
  obtain ⟨⟨v, hv⟩, n1, n2⟩ := F.cell y c (hcsub y c hy)
  obtain ⟨o', ho', _⟩ := id hv
  exact ⟨⟨v, Heap.IsCell.at' hv λ o e => t.ext _ o e (λ q => n1 q.all) (λ q => q)⟩, λ q => n1 (t.all_back ho' q), n2⟩
 have VC : ∀ (W3 : Gh) (n3 : Nat) (h3 : Heap) (m3 : Str -> Option Value) (pv : PV) (v : Value), bE lO W0 n0 h0 W3 n3 h3 -> h3.Ns C m3 -> m3 x = some v -> VR W3 n3 pv v -> ik (compEnvC scope (mK env scope.names []) C env) W3 n3 h3 (x :: ns) (some pv :: gf keep fr) := by
  intro W3 n3 h3 m3 pv v t hn hv hpv k y pv' h1 h2
  cases k with
  | zero =>
   simp only [List.getElem?_cons_zero, Option.some.injEq] at h1 h2
   subst h1; subst h2
   exact ⟨v, hpv, .inl ⟨lookup_relabel_local ok.target, m3, hn, hv⟩⟩
  | succ k =>
   simp only [List.getElem?_cons_succ] at h1 h2
   obtain ⟨hk, hf⟩ := uS h2
   obtain ⟨hl, hmem⟩ := ok.keep k y h1 hk
   obtain ⟨v', hv', hh⟩ := V k y pv' h1 hf
   have hkc := gl.cell y (ok.free (y, .free) hmem rfl)
   obtain ⟨c, hc⟩ := Da (env := env) scope.names [] y (.inr hmem)
   have hc' := hcsub y c hc
   refine ⟨v', t.vr hv', .inr ⟨?_, c, hc, ?_⟩⟩
   ·rcases jq (env := env) hl with q | ⟨_, q⟩
    ·exact .inr q
    ·exact .inl q
   ·rcases hh with ⟨a, _⟩ | ⟨_, c2, b, e2⟩
    ·rw [hkc.1] at a; cases ej a
    ·rw [hc'] at b; cases ej b
     exact Heap.IsCell.at' e2 λ o e => t.ext _ o e (λ q => (F.cell y c hc').2.1 q.all) (λ q => q)
 have GC : GL g' (compEnvC scope (mK env scope.names []) C env) := by
  refine ⟨λ y hy => ?_, λ y hy => ?_⟩
  ·rcases jq (env := env) (ok.glob y hy) with q | ⟨q, _⟩
   ·exact q
   ·cases q
  ·rw [ok.cell] at hy; cases hy
 have hkx : (compEnvC scope (mK env scope.names []) C env).kindOf x = some .local := lookup_relabel_local ok.target
 have loop : ∀ s₃ : Shared, s₃ = { s with heap := h₁, toks := s.toks + ([] : List (Str × Value)).length } ->
   codeAny (model S.prog S.w) A (.compLoop (.ListComp elt [⟨.Name x px, iter, ifs, 0⟩] scope pos) 0 (.ref I) (.ref D) (compEnvC scope (mK env scope.names []) C env)) (RR (.ref D) C) s₃ := by
  rintro s₃ rfl
  refine aQ (zk (P := λ k' s' => ∃ j W3 Z3 h3 tk3 vals acc, s' = { s with heap := h3, toks := tk3 } /\ dA S W3 Z3 h3 /\ bE lO W0 n0 h0 W3 Z3.next h3 /\ (∃ m, h3.Ns C m) /\ h3.PlainList D vals /\ fy W3 Z3.next acc vals.toList /\ acc.length <= 1000 /\ St j h3 /\
   (Z2.next <= Z3.next /\ (∀ i, i < Z2.next -> W3.ad i = W2.ad i) /\ ∀ a v, W2.T a = some v -> W3.T a = some v) /\ (∀ b ∈ fp, ¬ qT W3 Z3.next b) /\ (q8 S W3 Z3.next I /\ q8 S W3 Z3.next C /\ q8 S W3 Z3.next D) /\ j <= m /\ k' = m + 1 - j /\
   gj t e (gf keep fr) (vs.drop j) acc Z3 = some (ys, Ze))) λ Inv mk0 el => ?_
  have mk : ∀ (j : Nat) (W3 : Gh) (Z3 : Mine.St) (h3 : Heap) (tk3 : Nat) (vals : Array Value) (acc : List PV) (m3 : Str -> Option Value), dA S W3 Z3 h3 -> bE lO W0 n0 h0 W3 Z3.next h3 -> h3.Ns C m3 -> h3.PlainList D vals -> fy W3 Z3.next acc vals.toList -> acc.length <= 1000 -> St j h3 ->
   (Z2.next <= Z3.next /\ (∀ i, i < Z2.next -> W3.ad i = W2.ad i) /\ ∀ a v, W2.T a = some v -> W3.T a = some v) -> (∀ b ∈ fp, ¬ qT W3 Z3.next b) -> q8 S W3 Z3.next I -> q8 S W3 Z3.next C -> q8 S W3 Z3.next D -> j <= m ->
   gj t e (gf keep fr) (vs.drop j) acc Z3 = some (ys, Ze) -> Inv (m + 1 - j) { s with heap := h3, toks := tk3 } := λ j W3 Z3 h3 tk3 vals acc m3 a b c d e f g h i k l n o p => mk0 _ _ ⟨j, W3, Z3, h3, tk3, vals, acc, rfl, a, b, ⟨m3, c⟩, d, e, f, g, h, i, ⟨k, l, n⟩, o, rfl, p⟩
  refine codeAny_compLoop_tests Inv ?_ (m + 1) (mk 0 W2 Z2 h₁ _ #[] [] _ R1 T01 hns₁ hacc .nil (by simp) hst₁ ⟨Nat.le_refl _, λ _ _ => rfl, λ _ _ e => e⟩ hown hIo oC oD (Nat.zero_le _) hr)
  intro k' s' qq1; refine Fh (el _ _ qq1) λ j W3 Z3 h3 tk3 vals acc qq2 R3 T3 qq3 hl3 hv3 hz3 hst3 hmono hown3 qq4 hj qq5 e3 => ?_; obtain rfl := qq2; obtain ⟨m3, hn3⟩ := qq3; obtain ⟨oI3, oC3, oD3⟩ := qq4; obtain rfl := qq5
  clear qq1
  have butOf : ∀ (h4 : Heap), (∀ b o, b ∉ [I] -> h3.get? b = some o -> h4.get? b = some o) -> ∀ b o, b ≠ I -> h3.get? b = some o -> h4.get? b = some o := λ h4 hk b o hb => hk b o (by simp [hb])
  by_cases hlt : j < m
  ·refine Wk.item j _ _ _ hlt hst3 λ v h4 tk4 hPv hst4 hk4 => ?_
   have hk := butOf h4 hk4
   have R4 := R3.but' oI3 hk
   have T4 := T3.but hI0 hk
   have hn4 := hn3.at' λ o e => hk C o hCI e
   have hl4 : h4.PlainList D vals := hl3.at λ o e => hk D o hDI e
   have hjv : j < vs.length := hm ▸ hlt
   have hget : vs[j]? = some vs[j] := by simp [hjv]
   rw [List.drop_eq_getElem_cons hjv] at e3
   have hv : VR W3 Z3.next vs[j] v := (hP j vs[j] v hget hPv).mono hmono.1 hmono.2.1 hmono.2.2
   refine wpAny_assign_Name (wpAny_storeName_local hkx hn4 (λ h5 hn5 hs5 => ?_) (by simp [compEnvC, relabel, ok.kind]))
   have hk5 : ∀ b o, b ≠ C -> h4.get? b = some o -> h5.get? b = some o := λ b o hb e => (hs5.2 b hb).trans e
   have R5 := R4.but' oC3 hk5
   have T5 := T4.but hC0 hk5
   have hl5 : h5.PlainList D vals := hl4.at λ o e => hk5 D o hDC e
   have hst5 : St (j + 1) h5 := Wk.frame _ _ _ hst4 λ b hb o e => hk5 b o (hfpo b hb).1 e
   refine ba e3 ?_; clear e3; intro bb Z6 e6 e3
   have seenI : ∀ {h : Heap} {i : Nat}, St i h -> ∃ o, h.get? I = some o := λ hs => hval _ _ hs I hIfp
   refine ht A _ W3 _ Z3 _ _ _ bb Z6 r GC R5 (FC _ _ _ T5 ⟨_, hn5⟩ oC3) (VC _ _ _ _ _ v T5 hn5 (if_pos rfl) hv) e6 λ W6 h6 tk6 R6 t6 => ?_
   have T6 := T5.comp t6
   have hn6 := hn5.at' λ o e => t6.ext C o e (λ q => oC3.own q.all) (λ q => q)
   have hl6 : h6.PlainList D vals := hl5.at λ o e => t6.ext D o e (λ q => oD3.own q.all) (λ q => q)
   have hst6 : St (j + 1) h6 := Wk.frame _ _ _ hst5 λ b hb o e => t6.ext b o e (hown3 b hb) (λ q => q)
   have hv6 := t6.vrs hv3
   have oI6 := oI3.trans t6 (seenI hst5)
   have oC6 := oC3.trans t6 ((iV hn5 λ o _ _ e _ => ⟨o, e⟩))
   have oD6 := oD3.trans t6 ((br hl5 λ _ e => ⟨_, e⟩))
   have hown6 : ∀ b ∈ fp, ¬ qT W6 Z6.next b := λ b hb q => by
    obtain ⟨o, ho⟩ := hval _ _ hst5 b hb
    exact hown3 b hb (t6.own_back ho q)
   have hmono6 : Z2.next <= Z6.next /\ (∀ i, i < Z2.next -> W6.ad i = W2.ad i) /\ ∀ a v, W2.T a = some v -> W6.T a = some v :=
    ⟨Nat.le_trans hmono.1 t6.nx, λ i hi' => (t6.ad i (Nat.lt_of_lt_of_le hi' hmono.1)).trans (hmono.2.1 i hi'), λ a v q => t6.T a v (hmono.2.2 a v q)⟩
   cases bb with
   | false =>
    exact ⟨m + 1 - (j + 1), by lia, mk (j + 1) W6 Z6 h6 tk6 vals acc _ R6 T6 hn6 hl6 hv6 hz3 hst6 hmono6 hown6 oI6 oC6 oD6 hlt e3⟩
   | true =>
    simp only [if_true] at e3 |-
    refine ba e3 ?_; clear e3; intro y Z7 e7 e3
    split at e3
    case isFalse => exact bG e3
    rename_i hza
    refine he A _ W6 _ Z6 _ _ _ y Z7 r GC R6 (FC _ _ _ T6 ⟨_, hn6⟩ oC6) (VC _ _ _ _ _ v T6 hn6 (if_pos rfl) (t6.vr hv)) e7 λ W7 vy h7 tk7 R7 t7 x7 => ?_
    have T7 := T6.comp t7
    have hn7 := hn6.at' λ o e => t7.ext C o e (λ q => oC6.own q.all) (λ q => q)
    have hl7 : h7.PlainList D vals := hl6.at λ o e => t7.ext D o e (λ q => oD6.own q.all) (λ q => q)
    have hst7 : St (j + 1) h7 := Wk.frame _ _ _ hst6 λ b hb o e => t7.ext b o e (hown6 b hb) (λ q => q)
    have hv7 := t7.vrs hv6
    have oI7 := oI6.trans t7 (seenI hst6)
    have oC7 := oC6.trans t7 ((iV hn6 λ o _ _ e _ => ⟨o, e⟩))
    have oD7 := oD6.trans t7 ((br hl6 λ _ e => ⟨_, e⟩))
    have hown7 : ∀ b ∈ fp, ¬ qT W7 Z7.next b := λ b hb q => by
     obtain ⟨o, ho⟩ := hval _ _ hst6 b hb
     exact hown6 b hb (t7.own_back ho q)
    have hlen : acc.length = vals.size := by have := hv3.1; simpa using this
    refine wpAny_list_append_plain hl7 (λ h8 hl8 hs8 => ?_) (by rw [sizeLine_eq]; lia)
    have hk8 : ∀ b o, b ≠ D -> h7.get? b = some o -> h8.get? b = some o := λ b o hb e => (hs8.2 b hb).trans e
    refine ⟨m + 1 - (j + 1), by lia, mk (j + 1) W7 Z7 h8 tk7 (vals.push vy) (acc ++ [y]) _ (R7.but' oD7 hk8) (T7.but hD0 hk8) (hn7.at' λ o e => hk8 C o (Ne.symm hDC) e) hl8 ?_ (by simp; lia)
     (Wk.frame _ _ _ hst7 λ b hb o e => hk8 b o (hfpo b hb).2 e) ?_ hown7 oI7 oC7 oD7 hlt e3⟩
    ·rw [Array.toList_push]; exact hv7.append (.cons x7 .nil)
    ·exact ⟨Nat.le_trans hmono6.1 t7.nx, λ i hi' => (t7.ad i (Nat.lt_of_lt_of_le hi' hmono6.1)).trans (hmono6.2.1 i hi'), λ a v q => t7.T a v (hmono6.2.2 a v q)⟩
  ·have hjm : j = m := by lia
   subst hjm
   refine Wk.done _ _ _ hst3 λ h4 tk4 hk4 => ?_
   have hk := butOf h4 hk4
   rw [List.drop_eq_nil_of_le (by lia)] at e3
   refine gx e3 ?_; rintro rfl rfl
   exact hRR W3 D C h4 tk4 m3 vals (R3.but' oI3 hk) (T3.but hI0 hk) (hn3.at' λ o e => hk C o hCI e) (hl3.at λ o e => hk D o hDI e) hv3 hz3 oD3 oC3 hD0 hC0 hDC hmg
 exact codeAny_compStart_list (loop _ rfl) (Wk.self 0 _ _ _ hst₁ (loop _ rfl))
theorem gn {elt iter : Expr} {x : Str} {px : Pos} {ifs : List Expr} {scope : Scope} {pos : Pos} {a : ag -> M PV} {t : ag -> M Bool} {e : ag -> M PV} (keep : List Bool) (g' : Gn) (ok : rh scope g ns keep x g' = true)
  (ha : SE S d g ns iter a) (ht : sL S d g' (x :: ns) ifs t) (he : SE S d g' (x :: ns) elt e)
  (hs : ∀ env v, foldedSetIterable iter env v = pure v := by intros; rfl) : SE S d g ns (.ListComp elt [⟨.Name x px, iter, ifs, 0⟩] scope pos) (dV keep a t e) := by
 intro A env W fr Z s Q E pv Z' r gl R F V e0 P
 refine ba e0 ?_; clear e0; intro y Z1 e1 e0
 split at e0
 case h_2 => exact bG e0
 rename_i vs Z2 hi
 refine ba e0 ?_; clear e0; intro ys Z3 e3 e0
 refine bN (ic e0) λ hz qq4 qq5 => ?_; obtain rfl := qq4; obtain rfl := qq5
 have ok := sz.of ok
 have hfree : ∀ y ∈ scope.names, y.2 = .free -> ∃ c, env.cells.lookup y.1 = some c := λ y hy q => (gl.cell _ (ok.free y hy q)).2
 rw [eval_ListComp]
 refine wpAny_comprehension_free (use := none) rfl (hs env) (nk hfree) ok.kind ok.names ?_
 refine ha A env W fr Z s _ E y Z1 r gl R F V e1 λ W1 vy h1 tk1 R1 t1 x1 => u8 r R1 x1 hi λ W2 I h2 R2 hn t2 IA => ?_
 have hI1 : h1.get? I = none := Heap.get?_none_of_le IA.fresh
 have hI0 : s.heap.get? I = none := by
  cases q : s.heap.get? I with
  | none => rfl
  | some o => refine br (t1.dom I o q) λ o' e' => ?_; rw [hI1] at e'; exact bG e'
 have hIo : q8 S W2 Z2.next I := by
  have := q8.new R1 hI1
  refine ⟨λ q => ?_, IA.tn, this.base⟩
  rw [hn] at q
  refine aQ q λ i hi' hb' => ?_
  rw [t2.ad i hi'] at hb'
  exact this.own ⟨i, hi', hb'⟩
 refine uR (RR := λ acc C => compPost (model S.prog S.w) A E none Q acc C) (s := { s with heap := h2, toks := tk1 }) r ok gl F V (t1.comp t2) R2 IA hI0 hIo ht he e3 ?_
 intro W' D C h' tk m' vals R' T' hnC hlD hvD hz oD oC hD0 hC0 hDC hmg
 refine cC m' hnC (λ h'' hs'' => ?_)
 have hk : ∀ b o, b ≠ C -> h'.get? b = some o -> h''.get? b = some o := λ b o hb e => (hs''.2 b hb).trans e
 refine bN (dA.adopt (R'.but' oC hk) (T'.but hC0 hk) oD hD0 (hlD.at λ o e => hk D o hDC e) hvD hz hmg) λ Ra Ta xa => ?_
 exact P _ _ h'' tk Ra Ta xa
theorem tF {z : Str} {pz ps : Pos} {elt iter : Expr} {x : Str} {px : Pos} {ifs : List Expr} {scope : Scope} {pos : Pos} {a : ag -> M PV} {t : ag -> M Bool} {e : ag -> M PV} (k : Nat) (keep : List Bool) (g' : Gn) (ok : rh scope g ns keep x g' = true)
  (ha : SE S d g ns iter a) (ht : sL S d g' (x :: ns) ifs t) (he : SE S d g' (x :: ns) elt e) (hz_ : ns[k]? = some z := by rfl)
  (hs : ∀ env v, foldedSetIterable iter env v = pure v := by intros; rfl)
  (hl : (pz.line == (Expr.ListComp elt [⟨.Name x px, iter, ifs, 0⟩] scope pos).pos.line && !(scope.names.any λ (n, k) => n == z && (k == .local || k == .cell))) = true := by rfl) :
  SS S d g ns (.Assign [.Name z pz] (.ListComp elt [⟨.Name x px, iter, ifs, 0⟩] scope pos) ps) (aF k (dV keep a t e)) := by
 intro A env W fr Z s Q E f fr' Z' r gl T R F V e0 P
 have ok' := sz.of ok
 have hbk : env.blockKind = .function := by unfold Env.blockKind; rw [F.kind]; rfl
 have hswv : swapsWith (.ListComp elt [⟨.Name x px, iter, ifs, 0⟩] scope pos) (some (.Name z pz)) ps.line env = pure (env.blockKind == .function && env.kindOf z == some .local && pz.line == (Expr.ListComp elt [⟨.Name x px, iter, ifs, 0⟩] scope pos).pos.line
   && !(scope.names.any λ (n, k) => n == z && (k == .local || k == .cell))) := rfl
 rcases T.kind k z hz_ with hk | ⟨hk, _⟩
 ·have hsw : swapsWith (.ListComp elt [⟨.Name x px, iter, ifs, 0⟩] scope pos) (some (.Name z pz)) ps.line env = pure true := by
   rw [hswv, hbk, hk, show ((ScopeKind.function == ScopeKind.function && some NameKind.local == some NameKind.local) = true) from rfl, Bool.and_assoc, hl]; rfl
  refine ba e0 ?_; clear e0; intro v Z4 ev e0
  refine yD e0 ?_; rintro rfl rfl rfl
  refine ba ev ?_; clear ev; intro y Z1 e1 ev
  split at ev
  case h_2 => exact bG ev
  rename_i vs Z2 hi
  refine ba ev ?_; clear ev; intro ys Z3 e3 ev
  refine bN (ic ev) λ hz' qq6 qq7 => ?_; obtain rfl := qq6; obtain rfl := qq7
  have hfree : ∀ y ∈ scope.names, y.2 = .free -> ∃ c, env.cells.lookup y.1 = some c := λ y hy q => (gl.cell _ (ok'.free y hy q)).2
  rw [exec_Assign_Name_used _ _ _ _ hsw]
  refine wpAny_bind (wpAny_standAt (wpAny_bind ?_))
  show wpAny _ A (do let _ <- comprehension (.ListComp elt [⟨.Name x px, iter, ifs, 0⟩] scope pos) scope env _ (newList []) false (eval iter env) (some (assign (.Name z pz) env))) _ _ s
  refine wpAny_bind (wpAny_mono (wpAny_comprehension_free (use := some (assign (.Name z pz) env)) (Q := λ _ s' => Q .next s') rfl (hs env) (nk hfree) ok'.kind ok'.names ?_) (λ _ s' hq => wpAny_pure (wpAny_pure hq)) λ _ _ e => e)
  refine ha A env W fr Z s _ E y Z1 r gl R F V e1 λ W1 vy h1 tk1 R1 t1 x1 => u8 r R1 x1 hi λ W2 I h2 R2 hn t2 IA => ?_
  have hI1 : h1.get? I = none := Heap.get?_none_of_le IA.fresh
  have hI0 : s.heap.get? I = none := by
   cases q : s.heap.get? I with
   | none => rfl
   | some o => refine br (t1.dom I o q) λ o' e' => ?_; rw [hI1] at e'; exact bG e'
  have hIo : q8 S W2 Z2.next I := by
   have := q8.new R1 hI1
   refine ⟨λ q => ?_, IA.tn, this.base⟩
   rw [hn] at q
   refine aQ q λ i hi' hb' => ?_
   rw [t2.ad i hi'] at hb'
   exact this.own ⟨i, hi', hb'⟩
  refine uR (RR := λ acc C => compPost (model S.prog S.w) A E (some (assign (.Name z pz) env)) (λ _ s' => Q .next s') acc C) (s := { s with heap := h2, toks := tk1 }) r ok' gl F V (t1.comp t2) R2 IA hI0 hIo ht he e3 ?_
  intro W' D C h' tk m' vals R' T' hnC hlD hvD hz oD oC hD0 hC0 hDC hmg
  refine bN (dA.adopt R' T' oD hD0 hlD hvD hz hmg) λ Ra Ta xa => ?_
  have hCX : ¬ FX env C := λ q => by refine br (F.fxSome q) λ o e' => ?_; rw [hC0] at e'; exact bG e'
  have hCL : C ≠ env.locals := λ q => hCX (.inl q)
  show wpAny _ A (assign (.Name z pz) env (.ref D)) _ _ _
  have oC' : q8 S (W'.add Z3.next (D, D)) (Z3.push (.list ys)).next C := by
   refine ⟨?_, oC.tup, oC.base⟩
   intro qq6; refine aQ qq6 λ j hj hb => ?_
   by_cases q : j = Z3.next
   ·subst q
    rw [show (W'.add Z3.next (D, D)).ad Z3.next = (D, D) from if_pos rfl] at hb
    rcases hb with hb | hb <;> exact hDC hb.symm
   ·rw [show (W'.add Z3.next (D, D)).ad j = W'.ad j from if_neg q] at hb
    have : j < Z3.next + 1 := hj
    exact oC.own ⟨j, by exact Nat.lt_of_le_of_ne (Nat.le_of_lt_succ (by assumption)) (by assumption), hb⟩
  refine wpAny_assign_Name (kj T Ra (F.trans Ta) (V.trans F Ta) hz_ xa λ h2' tk2 Ra2 Ta2 Fa2 Va2 => ?_)
  refine ⟨m', hnC.at' λ o e => Ta2.ext C o e (λ q => oC'.own q.all) hCX, λ h'' hs'' => ?_⟩
  have hk : ∀ b o, b ≠ C -> h2'.get? b = some o -> h''.get? b = some o := λ b o hb e => (hs''.2 b hb).trans e
  exact P _ .next h'' tk2 (Ra2.but' oC' hk) ((Ta.toX.comp Ta2).but hC0 hk) (Fa2.but hCX hk) (Va2.but hCX hk) trivial
 ·have hsw : swapsWith (.ListComp elt [⟨.Name x px, iter, ifs, 0⟩] scope pos) (some (.Name z pz)) ps.line env = pure false := by
   rw [hswv, hbk, hk]; rfl
  refine ba e0 ?_; clear e0; intro v Z1 e1 e0
  refine yD e0 ?_; rintro rfl rfl rfl
  refine wpAny_Assign_Name (gn keep g' ok ha ht he hs A env W fr Z s _ E v _ r gl R F V e1 λ W1 vv h1 tk1 R1 t1 x1 => ?_) hsw
  refine kj T R1 (F.trans t1) (V.trans F t1) hz_ x1 λ h2 tk2 R2 t2 F2 V2 => ?_
  exact P W1 .next h2 tk2 R2 (t1.toX.comp t2) F2 V2 trivial
end
section
variable {S : eP}
variable {d : Nat} {g : Gn} {ns : List Str}
noncomputable def gY : List PV -> Option (List Int)
 | [] => some []
 | .int k :: vs => (gY vs).map (k :: ·)
 | _ => none
theorem fy.ints {W : Gh} {n : Nat} : ∀ {vs : List PV} {vals : List Value} {ks : List Int}, fy W n vs vals -> gY vs = some ks -> IntsAre vals ks := by
 intro vs
 induction vs with
 | nil => intro vals ks h e; cases ej e; rw [List.length_eq_zero_iff.mp h.1.symm]; exact .nil
 | cons p vs ih =>
  intro vals ks h e
  cases p with
  | int k =>
   obtain ⟨r, hr, rfl⟩ := Option.map_eq_some_iff.mp (show (gY vs).map (k :: ·) = some ks from e)
   cases vals with
   | nil => exact absurd h.1 (by simp)
   | cons v vals =>
    have h1 : VR W n (.int k) v := h.2 0 _ _ rfl rfl
    have h2 : fy W n vs vals := ⟨by have := h.1; simpa using this, λ j a b p q => h.2 (j + 1) a b (by simpa using p) (by simpa using q)⟩
    cases h1 with
    | int k t => exact .cons k t (ih h2 hr)
  | _ => exact bG e
theorem fy.ofInts {W : Gh} {n : Nat} {vals : List Value} {ks : List Int} (h : IntsAre vals ks) : fy W n (ks.map PV.int) vals := by
 induction h with
 | nil => exact .nil
 | cons k t _ ih => exact .cons (.int k t) ih
theorem gr : ∀ ks : List Int, gY (ks.map PV.int) = some ks
 | [] => rfl
 | k :: ks => by show (gY (ks.map PV.int)).map (k :: ·) = _; rw [gr ks]; rfl
noncomputable def cW (x : PV) (Z : St) : Option (List PV) := match x with
 | .ref i => (match Z.objs i with | .list vs => some vs | .flist vs => some vs | _ => none)
 | _ => none
theorem er {W : Gh} {Z : St} {h : Heap} {x : PV} {v : Value} {vs : List PV} (R : dA S W Z h) (hx : VR W Z.next x v) (e : cW x Z = some vs) :
  ∃ a vals, v = .ref a /\ h.PlainList a vals /\ fy W Z.next vs vals.toList /\ vs.length <= 1000 := by
 unfold cW at e
 split at e
 case h_2 => exact bG e
 rename_i i
 cases hx with
 | ref i hi =>
 have O := R.obj i hi
 split at e
 ·rename_i ho
  rw [ho] at O
  cases ej e
  obtain ⟨_, va, hl, hv, hz⟩ := O
  exact qh _ va rfl hl hv hz
 ·rename_i ho
  rw [ho] at O
  cases ej e
  obtain ⟨_, va, hl, hv, hz⟩ := O
  exact qh _ va rfl hl hv hz
 ·exact bG e
def tx (x y : PV) (Z : St) : Option Bool := match cW x Z with
 | none => none
 | some vs => match cW y Z with
  | none => none
  | some ws => match gY vs with
   | none => if vs.length ≠ ws.length then some false else none
   | some ks => match gY ws with
    | none => if vs.length ≠ ws.length then some false else none
    | some ls => some (decide (ks = ls))
def fq : PV -> PV -> St -> Option Bool := λ x y Z => match x with
 | .int a => (match y with
  | .int b => some (a == b)
  | _ => none)
 | .none => (match y with
  | .none => some true
  | _ => none)
 | x => tx x y Z
def wP : PV -> PV -> St -> Option Bool := λ x y Z => match x with
 | .int a => (match y with
  | .int b => some (a != b)
  | _ => none)
 | x => (tx x y Z).map not
theorem zP {W : Gh} {Z : St} {h : Heap} {x y : PV} {vx vy : Value} {b : Bool} {C : Prop} (R : dA S W Z h) (hx : VR W Z.next x vx) (hy : VR W Z.next y vy) (e : tx x y Z = some b)
  (k1 : ∀ a a' va vb ks ls, vx = .ref a -> vy = .ref a' -> h.PlainList a va -> h.PlainList a' vb -> IntsAre va.toList ks -> IntsAre vb.toList ls -> decide (ks = ls) = b -> C)
  (k2 : ∀ a a' va vb, vx = .ref a -> vy = .ref a' -> h.PlainList a va -> h.PlainList a' vb -> (va.size != vb.size) = true -> false = b -> C) : C := by
 unfold tx at e
 cases e1 : cW x Z with
 | none => rw [e1] at e; exact bG e
 | some vs =>
 rw [e1] at e
 cases e2 : cW y Z with
 | none => rw [e2] at e; exact bG e
 | some ws =>
 rw [e2] at e
 refine ed (er R hx e1) λ a va q1 hl hv _ => ed (er R hy e2) λ a' vb q2 hl' hv' _ => ?_
 have ne : (if vs.length ≠ ws.length then some false else none) = some b -> C := λ e => by
  by_cases c : vs.length = ws.length
  ·rw [if_neg (λ h => h c)] at e; exact bG e
  ·rw [if_pos c] at e
   exact k2 a a' va vb q1 q2 hl hl' (bne_iff_ne.mpr λ h => c ((hv.1.trans (Array.length_toList.trans (h.trans Array.length_toList.symm))).trans hv'.1.symm)) (ej e)
 dsimp only at e
 cases e3 : gY vs with
 | none => rw [e3] at e; exact ne e
 | some ks =>
 rw [e3] at e
 dsimp only at e
 cases e4 : gY ws with
 | none => rw [e4] at e; exact ne e
 | some ls => rw [e4] at e; exact k1 a a' va vb ks ls q1 q2 hl hl' (hv.ints e3) (hv'.ints e4) (ej e)
theorem Heap.PlainList.toA {h : Heap} {a : Addr} {vals : Array Value} (x : h.PlainList a vals) : h.IsList a vals.toList.toArray := by
 simpa using x.isList
theorem gF.eq {A : Around} (r : gF d A) : A.units + 64 < cLine := by
 have := r.units
 have : cLine = 9900 := by rfl
 lia
theorem eK : Df S d .Eq fq := by
 intro A W Z s Q E x y vx vy b r R hx hy e P
 have hu := r.eq
 have p := P.here R (.bool _) s.toks
 have fin : tx x y Z = some b -> wpAny (model S.prog S.w) A (compareOp .Eq vx vy) Q E s := λ e => zP R hx hy e (λ a a' va vb ks ls q1 q2 hl hl' i1 i2 q => by
   rw [q1, q2]
   exact eq_intsK (Heap.PlainList.toA hl) i1 (Heap.PlainList.toA hl') i2 hu (q ▸ p)) λ a a' va vb q1 q2 hl hl' q q3 => by
   rw [q1, q2]
   exact PySem.SeqAt.eq_list_lengthsAt hl.isList hl'.isList q (Nat.lt_of_le_of_lt (Nat.le_add_right _ _) hu) (q3 ▸ p)
 cases x with
 | int a =>
  cases y with
  | int c =>
   refine br hx.iI λ t q => br hy.iI λ u q2 => ?_
   rw [q, q2]
   exact eq_int (ej e ▸ p)
  | _ => exact bG e
 | none =>
  cases y with
  | none =>
   rw [hx.nI, hy.nI]
   exact PySem.EqNone.eq_none_none (ej e ▸ p)
  | _ => exact bG e
 | _ => exact fin e
theorem uE : Df S d .NotEq wP := by
 intro A W Z s Q E x y vx vy b r R hx hy e P
 have hu := r.eq
 have p := P.here R (.bool _) s.toks
 have fin : (tx x y Z).map not = some b -> wpAny (model S.prog S.w) A (compareOp .NotEq vx vy) Q E s := λ e => aQ (Option.map_eq_some_iff.mp e) λ b' e1 e2 => zP R hx hy e1 (λ a a' va vb ks ls q1 q2 hl hl' i1 i2 q => by
   rw [q1, q2]
   exact ne_intsK (Heap.PlainList.toA hl) i1 (Heap.PlainList.toA hl') i2 hu (q ▸ e2 ▸ p)) λ a a' va vb q1 q2 hl hl' q q3 => by
   rw [q1, q2]
   exact PySem.SeqAt.RcNeAt.lists_lengths hl.isList hl'.isList q (Nat.lt_of_le_of_lt (Nat.le_add_right _ _) hu) _ _ _ _ (by have p1 := p; rw [<- e2, <- q3] at p1; exact p1)
 cases x with
 | int a =>
  cases y with
  | int c =>
   refine br hx.iI λ t q => br hy.iI λ u q2 => ?_
   rw [q, q2]
   exact ne_int (ej e ▸ p)
  | _ => exact bG e
 | _ => exact fin e
def lP (k : Int) (x : PV) (Z : St) : Option (List PV) := if 0 <= k then (match x with
 | .scr ks => if ks.length <= 1000 then some ((ks.map PV.int).take k.toNat) else none
 | x => (cW x Z).map (List.take k.toNat)) else none
theorem GY {W : Gh} {Z : St} {h : Heap} {x : PV} {v : Value} {k : Int} {ws : List PV} (R : dA S W Z h) (hx : VR W Z.next x v) (e : lP k x Z = some ws) :
  0 <= k /\ ws.length <= 1000 /\ ∃ a items, v = .ref a /\ h.IsList a items /\ items.size <= 1000 /\ fy W Z.next ws (items.toList.take k.toNat) := by
 unfold lP at e
 split at e
 case isFalse => exact bG e
 rename_i h0
 have tk : ∀ {vs : List PV} {vals : List Value} (j : Nat), fy W Z.next vs vals -> fy W Z.next (vs.take j) (vals.take j) := λ {vs vals} j q =>
  ⟨by rw [List.length_take, List.length_take, q.1], λ i pv v h1 h2 => by
   rw [List.getElem?_take] at h1 h2
   split at h1
   ·rename_i hlt; rw [if_pos hlt] at h2; exact q.2 i pv v h1 h2
   ·exact bG h1⟩
 split at e
 ·rename_i ks
  split at e
  case isFalse => exact bG e
  rename_i hz
  cases ej e
  cases hx with
  | scr ks o vals m r h1 h2 h3 h4 =>
  have hl := h4.length
  refine ⟨h0, by rw [List.length_take, List.length_map]; omega, r, vals.toArray, rfl, ⟨o, (R.tup r o h1).1, h2, m, h3⟩, by rw [List.size_toArray]; omega, ?_⟩
  exact tk _ (fy.ofInts h4)
 ·refine aQ (Option.map_eq_some_iff.mp e) λ vs e1 qq6 => ?_; obtain rfl := qq6
  refine ed (er R hx e1) λ a va qq7 hl hv hz => ?_; obtain rfl := qq7
  have l1 : vs.length = va.size := by have := hv.1; simpa using this
  exact ⟨h0, by rw [List.length_take]; omega, a, va, rfl, hl.isList, by omega, tk _ hv⟩
def kB (k : Int) (a : ag -> M PV) : ag -> M PV := λ fr Z => cb (a fr Z) λ x Z1 => match lP k x Z1 with
 | some ws => nP ws Z1
 | none => none
theorem vd {v : Expr} {k : Int} {kk : Nat} {pk p pos : Pos} {a : ag -> M PV} (ha : SE S d g ns v a)
  (hs : ∀ o j, subscripted (.Slice none (some (.Constant (.int k) kk pk)) none p) false o j = operate [j, o] (getItem o j) := by intros; rfl) :
  SE S d g ns (.Subscript v (.Slice none (some (.Constant (.int k) kk pk)) none p) pos) (kB k a) := by
 intro A env W fr Z s Q E pv Z' r gl R F V e P
 refine ba e ?_; clear e; intro x Z1 e1 e
 split at e
 case h_2 => exact bG e
 rename_i ws hw
 obtain ⟨hz, rfl, rfl⟩ := ic e
 refine Subscript_ (ha A env W fr Z s _ E x _ r gl R F V e1 λ W1 vx h1 tk1 R1 t1 x1 => ?_)
 refine wpAny_Slice (PySem.evalPart_none_step (PySem.evalPart_some_step (wpAny_Constant_int (PySem.evalPart_none_step ?_))))
 obtain ⟨h0, hz', a', items, rfl, hl, hsz, hv⟩ := GY R1 x1 hw
 refine tail_any (Heap.IsList.typeIs (hl.push _)) list_getitem_lookup (wpAny_getItem_list_slice (hl.push _) (Heap.IsSliceOf.new ..) .none (.int k _) .none (by simp) ?_ (by rw [sizeLine_eq]; lia)) (hs _ _)
 have ek : slicePick items none (some k) none = (items.toList.take k.toNat).toArray := by
  have := slicePick_upto' items k.toNat
  rw [<- this, show ((k.toNat : Nat) : Int) = k by lia]
 rw [ek, Heap.size_push]
 obtain ⟨R2, t2, x2⟩ := R1.newList (a := h1.objs.size + 1) (h' := (h1.push _).push _) (λ b o e => Heap.get?_push_of_some _ (Heap.get?_push_of_some _ e)) (Nat.le_succ _) ⟨0, by
  have := Heap.get?_push_size (h1.push { cls := .type "slice", data := .fields #[.none, .int k tk1, .none] }) (o := { cls := .type "list", data := .seq (items.toList.take k.toNat).toArray }) rfl
  rwa [Heap.size_push] at this⟩ hv hz'
 exact P _ _ _ _ R2 (t1.comp t2) x2
def Dp (a : ag -> M PV) : ag -> M PV := λ fr Z => cb (a fr Z) λ x Z1 => match cW x Z1 with
 | some ws => nP ws.reverse Z1
 | none => none
theorem fy.reverse {W : Gh} {n : Nat} {vs : List PV} {vals : List Value} (h : fy W n vs vals) : fy W n vs.reverse vals.reverse := by
 induction vs generalizing vals with
 | nil => rw [List.length_eq_zero_iff.mp h.1.symm]; exact .nil
 | cons p vs ih =>
  cases vals with
  | nil => exact absurd h.1 (by simp)
  | cons v vals =>
   rw [List.reverse_cons, List.reverse_cons]
   exact (ih ⟨by have := h.1; simpa using this, λ j a b p q => h.2 (j + 1) a b (by simpa using p) (by simpa using q)⟩).append (.cons (h.2 0 _ _ rfl rfl) .nil)
theorem Gd {v : Expr} {kk : Nat} {pk pu p pos : Pos} {a : ag -> M PV} (ha : SE S d g ns v a)
  (hs : ∀ o j, subscripted (.Slice none none (some (.UnaryOp .USub (.Constant (.int 1) kk pk) pu)) p) false o j = operate [o, j] (getItem o j) := by intros; rfl) :
  SE S d g ns (.Subscript v (.Slice none none (some (.UnaryOp .USub (.Constant (.int 1) kk pk) pu)) p) pos) (Dp a) := by
 intro A env W fr Z s Q E pv Z' r gl R F V e P
 refine ba e ?_; clear e; intro x Z1 e1 e
 split at e
 case h_2 => exact bG e
 rename_i ws hw
 refine bN (ic e) λ hz qq11 qq12 => ?_; obtain rfl := qq11; obtain rfl := qq12
 refine Subscript_ (ha A env W fr Z s _ E x _ r gl R F V e1 λ W1 vx h1 tk1 R1 t1 x1 => ?_)
 refine wpAny_Slice (PySem.evalPart_none_step (PySem.evalPart_none_step (PySem.evalPart_some_step ?_)))
 rw [arm_eval_UnaryOp]
 refine wpAny_bind (wpAny_Constant_int (wpAny_bind (wpAny_standAt (wpAny_holding (PySem.P.neg_int ?_)))))
 refine ed (er R1 x1 hw) λ a' va qq13 hl hv _ => ?_; obtain rfl := qq13
 have l1 : ws.length = va.size := by have := hv.1; simpa using this
 rw [List.length_reverse] at hz
 refine tail_any (Heap.IsList.typeIs (hl.isList.push _)) list_getitem_lookup (wpAny_getItem_list_slice (hl.isList.push _) (Heap.IsSliceOf.new ..) .none .none (.int (-1) _) (by trivial) ?_ (by rw [sizeLine_eq]; lia)) (hs _ _)
 rw [krv_pick, Heap.size_push]
 obtain ⟨R2, t2, x2⟩ := R1.newList (a := h1.objs.size + 1) (h' := (h1.push _).push _) (λ b o e => Heap.get?_push_of_some _ (Heap.get?_push_of_some _ e)) (Nat.le_succ _) ⟨0, by
  have := Heap.get?_push_size (h1.push { cls := .type "slice", data := .fields #[.none, .none, .int (-1) (tk1 + 1)] }) (o := { cls := .type "list", data := .seq va.toList.reverse.toArray }) rfl
  rwa [Heap.size_push] at this⟩ hv.reverse (by rw [List.length_reverse]; assumption)
 exact P _ _ _ _ R2 (t1.comp t2) x2
end
section
variable {S : eP}
variable {d : Nat} {g : Gn} {ns : List Str}
noncomputable def oy (items : Array Value) (x : Str) (j : Nat) : Bool := match items[j]? with | some (.str y _) => y == x | _ => false
theorem yq {prog : Program} {w : World} {A : Around} {E : Value -> Shared -> Prop} {items : Array Value} {x : Str} {u : Tok} {j0 : Nat} {Q : Option PySem.Fin × Unit -> Shared -> Prop} :
  ∀ (js : List Nat) (s : Shared), (∀ j ∈ js, ∃ y t, items[j]? = some (.str y t)) -> js.find? (oy items x) = some j0 ->
  Q (some (.done (.ret (.int j0 s.toks))), ()) { s with toks := s.toks + 1 } ->
  wpAny (model prog w) A (forIn js ((none, ()) : Option PySem.Fin × Unit) λ (i : Nat) __s => match items[i]? with
          | some y => do
           let __do_lift <- eqBool y (Value.str x u)
           if __do_lift = true then do
             let __do_lift <- retInt (i : Int)
             pure (ForInStep.done (some __do_lift, ()))
            else pure (ForInStep.yield (none, ()))
          | x => pure (ForInStep.yield (none, ()))) Q E s := by
 intro js
 induction js with
 | nil => intro s _ h _; exact bG h
 | cons j js ih =>
  intro s hs h q
  rw [List.forIn_cons]
  refine fj (hs j (List.mem_cons_self ..)) λ y t hy => ?_
  rw [List.find?_cons] at h
  unfold oy at h
  rw [hy] at h |-
  dsimp only at h |-
  refine wpAny_bind (wpAny_bind (eqBool_str ?_))
  cases e : y == x with
  | true =>
   rw [e] at h
   cases ej h
   simp only [if_true]
   refine wpAny_bind (wpAny_bind (wpAny_mkInt (wpAny_pure (wpAny_pure (wpAny_pure q)))))
  | false =>
   rw [e] at h
   simp only [Bool.false_eq_true, if_false]
   exact wpAny_pure (ih s (λ j hj => hs j (List.mem_cons_of_mem _ hj)) h q)
theorem Ay {prog : Program} {w : World} {A : Around} {E : Value -> Shared -> Prop} {s : Shared} {P : PySem.Fin -> Shared -> Prop} {l : Addr} {items : Array Value} {n : Nat} {x : Str} {u : Tok} {j0 : Nat} (ho : s.heap.get? l = some { cls := .type "tuple", data := .seq items n })
  (hs : ∀ j, j < items.size -> ∃ y t, items[j]? = some (.str y t)) (hf : (List.range' 0 items.size 1).find? (oy items x) = some j0)
  (h : P (.done (.ret (.int j0 s.toks))) { s with toks := s.toks + 1 }) :
  wpAny (model prog w) A (Builtin.«tuple.index» ⟨[.ref l, .str x u], []⟩) P E s := by
 unfold Builtin.«tuple.index»
 refine wpAny_bind (m := selfAndSome "tuple.index" "index" 1 3 _) (wpAny_pure (a := (Value.ref l, [Value.str x u])) ?_)
 dsimp only
 refine wpAny_bind ?_
 unfold Builtin.Tuple.tupleItemsOf
 refine wpAny_bind (wpAny_seqItems ho rfl (wpAny_pure ?_))
 refine wpAny_bind (wpAny_pure (wpAny_bind (wpAny_pure ?_)))
 rw [Nat.min_self, Std.Legacy.Range.forIn_eq_forIn_range']
 refine wpAny_bind (yq (j0 := j0) _ s (λ j hj => hs j ?_) ?_ (wpAny_pure h))
 ·simp [Std.Legacy.Range.size] at hj; omega
 ·simpa [Std.Legacy.Range.size] using hf
theorem qP (l : Addr) (items : Array Value) (n : Nat) (x : Str) (u : Tok) (j0 : Nat) (hs : ∀ j, j < items.size -> ∃ y t, items[j]? = some (.str y t)) (hf : (List.range' 0 items.size 1).find? (oy items x) = some j0) :
  Meets (Builtin.«tuple.index» ⟨[.ref l, .str x u], []⟩) (λ _ R s => s.heap.get? l = some { cls := .type "tuple", data := .seq items n } /\ R (.ok (.ret (.int j0 s.toks))) { s with toks := s.toks + 1 }) :=
 .of_wp λ prog w A R s h => Ay h.1 hs hf ⟨_, rfl, h.2⟩
def EJ (items : Array Value) (x : PV) : Option Nat := match x with
 | .str y => (List.range' 0 items.size 1).find? (oy items y)
 | _ => none
def Am (items : Array Value) (a : ag -> M PV) : ag -> M PV := λ fr Z => cb (a fr Z) λ x Z1 => match EJ items x with
 | some j => some (.int j, Z1)
 | none => none
theorem AF {nm : Str} {pn apos pos : Pos} {e : Expr} {a : ag -> M PV} {pl : Env -> Sem Bool} {l : Addr} {items : Array Value} {n : Nat} (hx : nm ∈ g.glob) (hg : nsIn S.K mainGlobals nm = some (some (.ref l)))
  (hl : S.K.lookup l = some ⟨.type "tuple", none, .seq items n, #[]⟩) (hs : ∀ j, j < items.size -> ∃ y t, items[j]? = some (.str y t)) (hsz : items.size <= 100) (ha : SE S d g ns e a) (hb : fO nm = false := by decide +kernel)
  (he : ∀ env, eval (.Call (.Attribute (.Name nm pn) "index" apos) [e] [] pos) env = (do
   let ov <- eval (.Name nm pn) env
   standAt apos.atName
   let (f, first) <- holding [ov] (getMethod ov "index" (pl env))
   callWith pos f first (backTo pos (starEach [e] env)) []) := by intro env; rfl) (hst : ∀ env, starEach [e] env = [(false, eval e env)] := by intro env; rfl) :
  SE S d g ns (.Call (.Attribute (.Name nm pn) "index" apos) [e] [] pos) (Am items a) := by
 intro A env W fr Z s Q E pv Z' r gl R F V h P
 refine ba h ?_; clear h; intro x Z1 e1 h
 split at h
 case h_2 => exact bG h
 rename_i j hj
 refine gx h ?_; rintro rfl rfl
 unfold EJ at hj
 split at hj
 case h_2 => exact bG hj
 rename_i y
 have hget : ∀ h' : Heap, (∀ b o, S.h₀.get? b = some o -> h'.get? b = some o) -> h'.get? l = some { cls := .type "tuple", data := .seq items n } := λ h' k => (S.X.keeps k) _ _ hl
 refine MethodCall_ (u7 hx gl R F hg hb ?_) (he env)
 have hg1 := hget _ R.base
 refine getMethod_builtin (T := "tuple") ⟨_, hg1, rfl⟩ PySem.F.plainAttrs_tuple PySem.F.slot_tuple_index PySem.F.type_tuple_index (λ a q => by cases q; exact ⟨_, hg1, rfl⟩) ?_
 rw [hst env]
 refine callWith_builtin (first := [.ref l]) rfl (Calls.evalArgs_plain (spliced_cons ?_))
 refine ha A env W fr Z s _ E _ _ r gl R F V e1 λ W1 vx h1 tk1 R1 t1 x1 => spliced_nil ?_
 cases x1
 have hg2 := hget _ R1.base
 refine call_meets PySem.F.slot_tuple_index ⟨_, hg2, rfl⟩ PySem.F.entry_tuple_index (PySem.F.args_tuple_index_2 _ _) (qP l items n y _ j hs hj) ⟨hg2, ?_⟩
 exact P W1 _ h1 _ R1 t1 (.int _ _)
def ou (a : ag -> M PV) : ag -> M PV := λ fr Z => cb (a fr Z) λ x Z1 => match x with
 | .bool _ => some (.bool true, Z1)
 | .none => some (.bool false, Z1)
 | _ => none
theorem mB {e : Expr} {a : ag -> M PV} {nI nB : Str} {p pb pos : Pos} (hI : nI = "isinstance") (hB : nB = "bool") (h1 : nI ∈ g.glob) (h2 : nB ∈ g.glob) (g1 : nsIn S.K mainGlobals nI = some none) (g2 : nsIn S.K mainGlobals nB = some none)
  (b1 : bootBuiltins nI = some (.builtin "isinstance")) (b2 : bootBuiltins nB = some (.type "bool")) (ha : SE S d g ns e a) (n1 : nI ≠ "__name__") (n2 : nB ≠ "__name__") (c1 : fO nI = false) (c2 : fO nB = false)
  (he : ∀ env, starEach [e, .Name nB pb] env = [(false, eval e env), (false, eval (.Name nB pb) env)] := by intro env; rfl) :
  SE S d g ns (.Call (.Name nI p) [e, .Name nB pb] [] pos) (ou a) := by
 intro A env W fr Z s Q E pv Z' r gl R F V h P
 refine ba h ?_; clear h; intro x Z1 e1 h
 refine Call_Name rfl (uW h1 gl R F g1 b1 n1 c1 ?_)
 rw [he env]
 refine callWith_builtin (first := []) rfl (Calls.evalArgs_plain (spliced_cons ?_))
 refine ha A env W fr Z s _ E _ _ r gl R F V e1 λ W1 vx h1' tk1 R1 t1 x1 => spliced_cons (uW h2 gl R1 (F.trans t1) g2 b2 n2 c2 (spliced_nil ?_))
 split at h
 ·refine gx h ?_; rintro rfl rfl
  cases x1
  exact PySem.IsiPair.bool_bool (P W1 _ h1' tk1 R1 t1 (.bool _))
 ·refine gx h ?_; rintro rfl rfl
  cases x1
  exact PySem.IsiPair.NoneType_bool (P W1 _ h1' _ R1 t1 (.bool _))
 ·exact bG h
end
section
variable {S : eP}
variable {d : Nat} {g : Gn} {ns : List Str}
noncomputable def nj (ks : List Int) : List Int := ks.mergeSort (λ a b => decide (a <= b))
theorem BW {ks ls : List Int} (h1 : ls.Perm ks) (h2 : ls.Pairwise (· <= ·)) : ls = nj ks := by
 have p := List.mergeSort_perm ks (λ a b => decide (a <= b))
 have o : (nj ks).Pairwise (· <= ·) := by
  have := List.pairwise_mergeSort (le := λ a b : Int => decide (a <= b)) (λ a b c h1 h2 => by simp at *; lia) (λ a b => by simp; lia) ks
  exact this.imp (λ h => by simpa using h)
 exact ksm_same (h1.trans p.symm) h2 o
def kZ (x : PV) (Z : St) : Option (List Int) := match cW x Z with
 | some vs => gY vs
 | none => (match x with
  | .ref i => (match Z.objs i with | .dict es => some (es.map (·.1)) | .fdict es => some (es.map (·.1)) | _ => none)
  | _ => none)
def cZ : List PV -> M PV := λ pvs Z => match pvs with
 | [x] => (match kZ x Z with
  | some ks => if ks.length < 64 then nP ((nj ks).map PV.int) Z else none
  | none => none)
 | _ => none
theorem xG {A : Around} {E : Value -> Shared -> Prop} {s : Shared} {Q : Value -> Shared -> Prop} {dd : Addr} {kvs : List (Int × Value)} {ep : Nat} (hh : A.handled = none) (lo : (dd == sysModules) = false) (hm : s.heap.DictAt (intKind S.prog S.w) dd kvs ep) (h64 : kvs.length < 64)
  (h : ∀ (h' : Heap) (tk : Nat) (a : Addr) (out : Array Value) (ns' : List Int), (∀ b o, s.heap.get? b = some o -> h'.get? b = some o) -> (∀ b o, s.heap.get? b = some o -> b < a) -> h'.PlainList a out -> IntsAre out.toList ns' -> ns'.Perm (kvs.map (·.1)) -> ns'.Pairwise (· <= ·) -> Q (.ref a) { s with heap := h', toks := tk }) :
  wpAny (model S.prog S.w) A (call (.builtin "sorted") [.ref dd]) Q E s := by
 refine Calls.call_function_entry kind_sorted plain_sorted entry_sorted (args_sorted1 _) ?_
 unfold Builtin.«sorted»
 refine wpAny_bind (m := checkCount "sorted" 1 1 _) (wpAny_pure ?_)
 refine wpAny_bind (kdu_collect (A := A.in1) (kdl_dict lo) hh hm (by rw [sizeLine_eq]; lia) λ h' tk acc hk hacc => ?_)
 have hI : IntsAre acc.toList (kvs.map (·.1)) := by
  have gen : ∀ (l : List Value) (ks : List Int), l.length = ks.length -> (∀ (j : Nat) (v : Value), l[j]? = some v -> ∃ (k : Int) (t : Tok), ks[j]? = some k /\ v = Value.int k t) -> IntsAre l ks := by
   intro l
   induction l with
   | nil => intro ks h _; rw [List.length_eq_zero_iff.mp h.symm]; exact .nil
   | cons v l ih =>
    intro ks h1 h2
    cases ks with
    | nil => cases h1
    | cons k ks =>
     refine jn (h2 0 v rfl) λ k' t e qq1 => ?_; obtain rfl := qq1
     cases ej e
     exact .cons _ _ (ih ks (by simpa using h1) λ j v e => h2 (j + 1) v (by simpa using e))
  refine gen _ _ (by rw [Array.length_toList, hacc.1, List.length_map]) λ j v e => ?_
  refine jn (hacc.2 j v (by rw [<- Array.getElem?_toList]; exact e)) λ k x e1 e2 => ?_
  refine br (yz (show Value.isInt k v = true from e2)) λ t qq2 => ?_; obtain rfl := qq2
  exact lW k t (by rw [List.getElem?_map, e1]; rfl) rfl
 have hsz : acc.toList.length < 64 := by rw [Array.length_toList, hacc.1]; exact h64
 refine wpAny_bind (wpAny_newList ?_ (by rw [sizeLine_eq]; lia))
 have hoL : (h'.push (seqObj "list" acc.toList.toArray 0)).get? h'.objs.size = some (seqObj "list" acc.toList.toArray 0) := Heap.get?_push_size _ rfl
 refine wpAny_bind (wpAny_holding (wpAny_call_entry slot_list_sort ⟨_, hoL, rfl⟩ entry_list_sort (list_sort_tree hoL hI hsz λ out ns' a1 a2 a3 => ⟨_, rfl, ?_⟩) (args_list_sort _)))
 refine br (sortedHeap_at (out := out) hoL) λ e he => ?_
 refine wpAny_pure ⟨_, rfl, h _ tk _ out ns' (λ b o hb => ?_) (λ b o hb => Heap.lt_size (hk b o hb)) ⟨e, he⟩ a1 a2 a3⟩
 have hb' := hk b o hb
 have hlt := Heap.lt_size hb'
 rw [sortedHeap_old (Nat.ne_of_lt hlt) (by rw [size_push']; exact Nat.lt_succ_of_lt hlt)]
 exact Heap.get?_push_of_some _ hb'
theorem CW : Dd S d (.builtin "sorted") cZ := by
 intro A W Z s Q E pvs vals pv Z' r R hv e P
 unfold cZ at e
 split at e
 case h_2 => exact bG e
 rename_i x
 split at e
 case h_2 => exact bG e
 rename_i ks hks
 split at e
 case isFalse => exact bG e
 rename_i h64
 refine bN (ic e) λ hz qq3 qq4 => ?_; obtain rfl := qq3; obtain rfl := qq4
 refine aQ hv.one λ v qq5 hx => ?_; obtain rfl := qq5
 have fin : ∀ (h' : Heap) (tk : Nat) (a : Addr) (out : Array Value) (ns' : List Int), (∀ b o, s.heap.get? b = some o -> h'.get? b = some o) -> (∀ b o, s.heap.get? b = some o -> b < a) -> h'.PlainList a out -> IntsAre out.toList ns' -> ns'.Perm ks -> ns'.Pairwise (· <= ·) -> Q (.ref a) { s with heap := h', toks := tk } := by
  intro h' tk a out ns' k1 k2 k3 k4 k5 k6
  have hn : s.heap.get? a = none := by
   cases q : s.heap.get? a with
   | none => rfl
   | some o => exact absurd (k2 a o q) (Nat.lt_irrefl _)
  refine bK (R.keep k1) λ R' t' => ?_
  have hmg : mainGlobals < a := by
   refine iV ((S.T.g.keeps R.base)) λ o _ _ ho _ => ?_
   exact k2 _ _ ho
  rw [BW k5 k6] at k4
  refine bN (dA.adopt R' t' (.new R hn) hn k3 (fy.ofInts k4) hz hmg) λ Ra Ta xa => ?_
  exact P _ _ h' tk Ra Ta xa
 unfold kZ at hks
 split at hks
 ·rename_i vs hl
  refine ed (er R hx hl) λ a va qq6 hpl hvs _ => ?_; obtain rfl := qq6
  have hI := hvs.ints hks
  have hlen := hI.length
  refine sorted_ints (Heap.PlainList.toA hpl) hI (by lia) λ out ns' a1 a2 a3 => ?_
  refine br (sortedAll_at s.heap va.toList out) λ e he => ?_
  exact fin _ s.toks _ out ns' (λ _ _ => sortedAll_old) (λ b o hb => Nat.lt_succ_of_lt (Heap.lt_size hb)) ⟨e, he⟩ a1 a2 a3
 ·rename_i hl
  split at hks
  case h_2 => exact bG hks
  rename_i i
  cases hx with
  | ref i hi =>
  have O := R.obj i hi
  have dictCase : ∀ (es : List (Int × PV)) (kvs : List (Int × Value)), s.heap.DictOf (intKind S.prog S.w) (W.ad i).1 kvs -> es.map (·.1) = kvs.map (·.1) -> ks = es.map (·.1) -> wpAny (model S.prog S.w) A (call (.builtin "sorted") [.ref (W.ad i).1]) Q E s := by
   intro es kvs hd hk he
   refine br hd.dictAt λ ep hd => ?_
   have habove := R.above i hi
   have hsys : ((W.ad i).1 == sysModules) = false := by
    have h1 : sysModules <= mainGlobals := by decide
    rw [beq_eq_false_iff_ne]; exact Nat.ne_of_gt (Nat.lt_of_le_of_lt h1 habove)
   have hlen : kvs.length < 64 := by
    have := congrArg List.length hk
    rw [he, List.length_map] at h64
    simp only [List.length_map] at this; lia
   exact xG r.handled hsys hd hlen λ h' tk a out ns' k1 k2 k3 k4 k5 k6 => fin h' tk a out ns' k1 k2 k3 k4 (by rw [he, hk]; exact k5) k6
  split at hks
  ·rename_i es ho
   rw [ho] at O
   obtain ⟨_, kvs, hd, hk, _⟩ := O
   cases ej hks
   exact dictCase es kvs hd hk rfl
  ·rename_i es ho
   rw [ho] at O
   obtain ⟨_, kvs, hd, hk, _⟩ := O
   cases ej hks
   exact dictCase es kvs hd hk rfl
  ·exact bG hks
def sy : List PV -> M PV := λ pvs Z => match pvs with
 | [x] => (match (cW x Z).bind gY with
  | some ks => (match ks.max? with | some m => some (.int m, Z) | none => none)
  | none => none)
 | _ => none
def rV : List PV -> M PV := λ pvs Z => match pvs with
 | [x] => (match (cW x Z).bind gY with
  | some ks => (match ks.min? with | some m => some (.int m, Z) | none => none)
  | none => none)
 | _ => none
theorem rT {xs : Array (Int × Tok)} {ks : List Int} (h : IntsAre (intItems xs).toList ks) : xs.toList.map (·.1) = ks := by
 have : (intItems xs).toList = xs.toList.map λ p => Value.int p.1 p.2 := by simp [intItems]
 rw [this] at h
 generalize xs.toList = l at h |-
 induction l generalizing ks with
 | nil => cases h; rfl
 | cons p l ih => cases h with | cons k t h => rw [List.map_cons, ih h]
theorem Fg : Dd S d (.builtin "max") sy := by
 intro A W Z s Q E pvs vals pv Z' r R hv e P
 unfold sy at e
 split at e
 case h_2 => exact bG e
 rename_i x
 split at e
 case h_2 => exact bG e
 rename_i ks hks
 split at e
 case h_2 => exact bG e
 rename_i m hm
 refine gx e ?_; rintro rfl rfl
 refine aQ hv.one λ v qq7 hx => ?_; obtain rfl := qq7
 refine aQ (Option.bind_eq_some_iff.mp hks) λ vs hl hi => ?_
 refine ed (er R hx hl) λ a va qq8 hpl hvs _ => ?_; obtain rfl := qq8
 have hI := hvs.ints hi
 refine br (AllInts.items (vs := va) (by have := hI.allInts; simpa using this)) λ xs qq9 => ?_; obtain rfl := qq9
 have hks' := rT hI
 have hsz : xs.size = ks.length := by rw [<- hks', List.length_map, Array.length_toList]
 have hne : ks ≠ [] := λ q => by rw [q] at hm; exact bG hm
 have hpos : 0 < xs.size := by rw [hsz]; exact List.length_pos_iff.mpr hne
 refine max_intList r.handled hpl.isList hpos λ v h' tk hv' hk => ?_
 refine br (intItems_at hv') λ t qq10 => ?_; obtain rfl := qq10
 refine bK (argBest_gt (numAt xs) (xs.size - 1)) λ h1 h2 => ?_
 refine bK (R.keep hk) λ R' t' => ?_
 have : m = numAt xs (argBest (λ i j => decide (numAt xs i > numAt xs j)) (xs.size - 1)) := by
  refine bK (List.max?_eq_some_iff.mp hm) λ m1 m2 => ?_
  have u1 : numAt xs (argBest (λ i j => decide (numAt xs i > numAt xs j)) (xs.size - 1)) ∈ ks := by
   rw [numAt_eq, hks']; exact getD_mem (by omega)
  have u2 : m <= numAt xs (argBest (λ i j => decide (numAt xs i > numAt xs j)) (xs.size - 1)) := by
   refine aQ (mem_getD m1) λ j hj e => ?_
   rw [<- hks', <- numAt_eq] at e
   rw [<- e]; exact h2 j (by omega)
  exact Int.le_antisymm u2 (m2 _ u1)
 rw [this] at P
 exact P W _ h' tk R' t' (.int _ _)
theorem Gl : Dd S d (.builtin "min") rV := by
 intro A W Z s Q E pvs vals pv Z' r R hv e P
 unfold rV at e
 split at e
 case h_2 => exact bG e
 rename_i x
 split at e
 case h_2 => exact bG e
 rename_i ks hks
 split at e
 case h_2 => exact bG e
 rename_i m hm
 refine gx e ?_; rintro rfl rfl
 refine aQ hv.one λ v qq11 hx => ?_; obtain rfl := qq11
 refine aQ (Option.bind_eq_some_iff.mp hks) λ vs hl hi => ?_
 refine ed (er R hx hl) λ a va qq12 hpl hvs _ => ?_; obtain rfl := qq12
 have hI := hvs.ints hi
 refine br (AllInts.items (vs := va) (by have := hI.allInts; simpa using this)) λ xs qq13 => ?_; obtain rfl := qq13
 have hks' := rT hI
 have hsz : xs.size = ks.length := by rw [<- hks', List.length_map, Array.length_toList]
 have hne : ks ≠ [] := λ q => by rw [q] at hm; exact bG hm
 have hpos : 0 < xs.size := by rw [hsz]; exact List.length_pos_iff.mpr hne
 refine min_intList r.handled hpl.isList hpos λ v h' tk hv' hk => ?_
 refine br (intItems_at hv') λ t qq14 => ?_; obtain rfl := qq14
 refine bK (argBest_lt (numAt xs) (xs.size - 1)) λ h1 h2 => ?_
 refine bK (R.keep hk) λ R' t' => ?_
 have : m = numAt xs (argBest (λ i j => decide (numAt xs i < numAt xs j)) (xs.size - 1)) := by
  refine bK (List.min?_eq_some_iff.mp hm) λ m1 m2 => ?_
  have u1 : numAt xs (argBest (λ i j => decide (numAt xs i < numAt xs j)) (xs.size - 1)) ∈ ks := by
   rw [numAt_eq, hks']; exact getD_mem (by omega)
  have u2 : numAt xs (argBest (λ i j => decide (numAt xs i < numAt xs j)) (xs.size - 1)) <= m := by
   refine aQ (mem_getD m1) λ j hj e => ?_
   rw [<- hks', <- numAt_eq] at e
   rw [<- e]; exact h2 j (by omega)
  exact Int.le_antisymm (m2 _ u1) u2
 rw [this] at P
 exact P W _ h' tk R' t' (.int _ _)
def oE : PV -> PV -> M PV := λ x y Z => match x with
 | .ref i => (match Z.objs i, cW y Z with
  | .list vs, some ws => if vs.length + ws.length <= 1000 then some (.none, Z.set i (.list (vs ++ ws))) else none
  | _, _ => none)
 | _ => none
theorem CX : Cl S d "list.extend" oE := by
 intro A W Z s Q E x y vx vy pv Z' r R hx hy h P
 unfold oE at h
 split at h
 case h_2 => exact bG h
 split at h
 case h_2 => exact bG h
 rename_i i _ _ vs ws ho hw
 split at h
 case isFalse => exact bG h
 rename_i hz
 refine gx h ?_; rintro rfl rfl
 cases hx with
 | ref i hi =>
 have O := R.obj i hi
 rw [ho] at O
 obtain ⟨_, va, ⟨n, hget⟩, hv, _⟩ := O
 refine ed (er R hy hw) λ b vb qq16 qq17 hv2 _ => ?_; obtain rfl := qq16; obtain ⟨n2, hget2⟩ := qq17
 have l1 : vs.length = va.size := by have := hv.1; simpa using this
 have l2 : ws.length = vb.size := by have := hv2.1; simpa using this
 have htl : ¬(!va.isEmpty && Builtin.List.listTooLong (va.size + vb.size)) = true := by
  have : Builtin.List.listTooLong (va.size + vb.size) = false := by
   unfold Builtin.List.listTooLong
   rw [sizeLine_eq]
   simp
   lia
  rw [this, Bool.and_false]; simp
 refine call_meets PySem.F.slot_list_extend ⟨_, hget, rfl⟩ PySem.F.entry_list_extend (PySem.F.args_list_extend_2 _ _) (AutoSeq1.list_extend_list_list_0 _ va n b vb n2 htl (by rw [sizeLine_eq]; lia) (by rw [sizeLine_eq]; lia)) ⟨hget, hget2, ?_⟩
 have hl' : (s.heap.update (W.ad i).1 (Obj.mapSeq λ x => x ++ vb)).PlainList (W.ad i).1 (va ++ vb) := ⟨_, Heap.get?_update_self _ hget rfl⟩
 refine bK (R.setList hi ho (Heap.SameBut.update ..) hl' (ws := vs ++ ws) (by rw [Array.toList_append]; exact hv.append hv2) (by simp; lia)) λ R' t' => ?_
 exact P W .none _ s.toks R' t' .none
end
section
variable {S : eP}
variable {d : Nat} {g : Gn} {ns : List Str}
def xN (fr : ag) (ks : List Nat) (vs : List PV) : ag := (ks.zip vs).foldl (λ f p => f.set p.1 (some p.2)) fr
theorem vE {fr : ag} {ks : List Nat} {vs : List PV} (hl : ks.length = vs.length) (hn : ks.Nodup) : xN fr ks.reverse vs.reverse = xN fr ks vs := by
 unfold xN
 rw [List.zip_eq_zipWith, List.zip_eq_zipWith, <- List.reverse_zipWith hl]
 refine List.Perm.foldl_eq' (List.reverse_perm _) (λ x hx y hy z => ?_) fr
 by_cases q : x.1 = y.1
 ·have hx' : x ∈ ks.zip vs := by rw [List.zip_eq_zipWith]; exact List.mem_reverse.mp hx
  have hy' : y ∈ ks.zip vs := by rw [List.zip_eq_zipWith]; exact List.mem_reverse.mp hy
  obtain ⟨i, hi⟩ := List.mem_iff_getElem?.mp hx'
  obtain ⟨j, hj⟩ := List.mem_iff_getElem?.mp hy'
  rw [List.getElem?_zip_eq_some] at hi hj
  have hik : i < ks.length := (List.getElem?_eq_some_iff.mp hi.1).1
  have : i = j := (List.getElem?_inj hik hn).mp (by rw [hi.1, hj.1, q])
  subst this
  have : x.2 = y.2 := Option.some.inj (hi.2.symm.trans hj.2)
  rw [q, this]
 ·exact List.set_comm _ _ q
theorem uI {A : Around} {env : Env} {E : Value -> Shared -> Prop} {M : Model} (T : Gp env ns) (tt : Str -> Value -> Sem Unit) (htt : ∀ x v s Q, wpAny M A (storeName env x v) Q E s -> wpAny M A (tt x v) Q E s) :
  ∀ (names : List Str) (ks : List Nat) (pvs : List PV) (vals : List Value) (W : Gh) (fr : ag) (Z : St) (s : Shared) (Q : Unit -> Shared -> Prop), names.map some = ks.map (λ k => ns[k]?) -> names.length = pvs.length -> fy W Z.next pvs vals ->
   dA S W Z s.heap -> lT S env W Z.next s.heap -> ik env W Z.next s.heap ns fr ->
   (∀ h' tk, dA S W Z h' -> bE (FX env) W Z.next s.heap W Z.next h' -> lT S env W Z.next h' -> ik env W Z.next h' ns (xN fr ks pvs) -> Q () { s with heap := h', toks := tk }) ->
   wpAny M A (assignInOrder (names.map tt) vals) Q E s := by
 intro names
 induction names with
 | nil =>
  intro ks pvs vals W fr Z s Q hk hl hv R F V P
  have hks : ks = [] := by cases ks with | nil => rfl | cons _ _ => simp at hk
  have hpv : pvs = [] := by cases pvs with | nil => rfl | cons _ _ => simp at hl
  subst hks hpv
  have : vals = [] := List.length_eq_zero_iff.mp hv.1.symm
  subst this
  exact assignInOrder_nil (P s.heap s.toks R .refl F V)
 | cons x names ih =>
  intro ks pvs vals W fr Z s Q hk hl hv R F V P
  cases ks with
  | nil => simp at hk
  | cons k ks =>
  cases pvs with
  | nil => simp at hl
  | cons pv pvs =>
  cases vals with
  | nil => exact absurd hv.1 (by simp)
  | cons v vals =>
  simp only [List.map_cons, List.cons.injEq] at hk
  have hv0 : VR W Z.next pv v := hv.2 0 _ _ rfl rfl
  have hv1 : fy W Z.next pvs vals := ⟨by have := hv.1; simpa using this, λ j a b p q => hv.2 (j + 1) a b (by simpa using p) (by simpa using q)⟩
  refine assignInOrder_cons (htt _ _ _ _ (kj T R F V hk.1.symm hv0 λ h1 tk1 R1 t1 F1 V1 => ?_))
  exact ih ks pvs vals W _ Z _ Q hk.2 (by simpa using hl) hv1 R1 F1 V1 λ h2 tk2 R2 t2 F2 V2 => P h2 tk2 R2 (t1.comp t2) F2 V2
theorem uV {A : Around} {I : Addr} {fp : List Addr} {N : Nat} {P : Nat -> Value -> Prop} {St : Nat -> Heap -> Prop} {E : Value -> Shared -> Prop} (Wk : Walks S.prog S.w A I fp [I] N P St) : ∀ (n i : Nat) (s : Shared) (Q : List Value -> Shared -> Prop), St i s.heap -> i + n <= N ->
  (∀ vs h' tk, vs.length = n -> (∀ j v, vs[j]? = some v -> P (i + j) v) -> St (i + n) h' -> (∀ b o, b ∉ [I] -> s.heap.get? b = some o -> h'.get? b = some o) -> Q vs { s with heap := h', toks := tk }) -> wpAny (model S.prog S.w) A (draw (.ref I) n) Q E s
 | 0, i, s, Q, hst, _, hQ => by
  show wpAny _ _ (pure []) Q E s
  exact wpAny_pure (hQ [] s.heap s.toks rfl (λ j v e => by simp at e) hst λ b o _ e => e)
 | n + 1, i, s, Q, hst, hle, hQ => by
  show wpAny _ _ (pyNext (.ref I) >>= _) Q E s
  refine wpAny_bind (Wk.item i _ _ _ (by lia) hst λ v h1 tk1 hP hst1 hk1 => ?_)
  refine wpAny_bind (wpAny_holding (uV Wk n (i + 1) _ _ hst1 (by lia) λ vs h2 tk2 hl hPs hst2 hk2 => wpAny_pure ?_))
  refine hQ (v :: vs) h2 tk2 (by simp [hl]) (λ j w e => ?_) (by rw [show i + (n + 1) = i + 1 + n by lia]; exact hst2) λ b o hb e => hk2 b o hb (hk1 b o hb e)
  cases j with
  | zero => simp at e; rw [<- e]; exact hP
  | succ j => have := hPs j w (by simpa using e); rwa [show i + (j + 1) = i + 1 + j by lia]
theorem pF {A : Around} {l : Addr} {va : Array Value} {E : Value -> Shared -> Prop} {s : Shared} {Q : List Value -> Shared -> Prop} (hh : A.handled = none) (hl : s.heap.PlainList l va)
  (hQ : ∀ h' tk, (∀ b o, s.heap.get? b = some o -> h'.get? b = some o) -> Q va.toList { s with heap := h', toks := tk }) : wpAny (model S.prog S.w) A (unpackItems (.ref l) va.size none) Q E s := by
 have hlt : l ≠ s.heap.objs.size := by obtain ⟨n, ho⟩ := hl; exact Nat.ne_of_lt (Heap.lt_size ho)
 unfold unpackItems
 refine wpAny_bind ?_
 ·unfold notIterableAtAll
  refine wpAny_bind (wpAny_specialOf hl.isList.typeIs PySem.F.slot_list_iter.lookup ?_)
  refine wpAny_pure ?_
  simp only [Bool.false_eq_true, if_false]
  refine wpAny_bind (wpAny_holding (wpAny_pyIter_list hl.isList ?_))
  have Wk := Walks.list (prog := S.prog) (w := S.w) hh s.heap.objs.size l hlt va
  refine wpAny_bind (wpAny_holding (uV Wk va.size 0 _ _ ⟨⟨_, Heap.get?_push_size _ rfl, rfl, rfl⟩, hl.isList.push _⟩ (by lia) λ vs h1 tk1 hlen hP hst1 hk1 => ?_))
  have hvs : vs = va.toList := by
   apply List.ext_getElem?
   intro j
   cases e : vs[j]? with
   | none =>
    rw [List.getElem?_eq_none_iff] at e
    rw [eq_comm, List.getElem?_eq_none_iff, Array.length_toList]; lia
   | some v =>
    have := hP j v e
    rw [Nat.zero_add] at this
    rw [Array.getElem?_toList]; exact this.symm
  subst hvs
  rw [if_neg (by simp)]
  refine wpAny_bind (wpAny_holding (Wk.done _ _ _ (by rw [Nat.zero_add] at hst1; exact hst1) λ h2 tk2 hk2 => ?_))
  simp only [Option.isSome_none, Bool.false_eq_true, if_false]
  have ne : ∀ b o, s.heap.get? b = some o -> b ∉ [s.heap.objs.size] := λ b o e q => by
   rw [List.mem_singleton.mp q] at e; exact Nat.lt_irrefl _ (Heap.lt_size e)
  exact wpAny_pure (hQ h2 tk2 λ b o e => hk2 b o (ne b o e) (hk1 b o (ne b o e) (Heap.get?_push_of_some _ e)))
def oS (x : PV) (Z : St) : Option (List PV) := match x with
 | .tup vs => some vs
 | x => cW x Z
theorem mo {A : Around} {W : Gh} {Z : St} {s : Shared} {Q : List Value -> Shared -> Prop} {E : Value -> Shared -> Prop} {x : PV} {v : Value} {vs : List PV} {n : Nat} (r : gF d A) (R : dA S W Z s.heap) (hx : VR W Z.next x v) (hi : oS x Z = some vs) (hn : vs.length = n)
  (P : ∀ vals h' tk, dA S W Z h' -> bE lO W Z.next s.heap W Z.next h' -> fy W Z.next vs vals -> Q vals { s with heap := h', toks := tk }) : wpAny (model S.prog S.w) A (unpackItems v n none) Q E s := by
 unfold oS at hi
 split at hi
 ·cases ej hi
  cases hx with
  | tup ws vals a h1 h2 h3 =>
  have ht : IsTup s.heap a vals.toArray := ⟨_, (R.tup a _ h1).1, rfl, 0, rfl⟩
  have hsz : n = vals.toArray.size := by rw [List.size_toArray]; lia
  rw [hsz]
  refine unpackItems_tuple r.handled ht λ h' he => ?_
  refine bK (R.keep (h' := h') λ b o e => he b o (Nat.ne_of_lt (Heap.lt_size e)) e) λ R' t' => ?_
  exact P vals h' s.toks R' t' ⟨h2, h3⟩
 ·refine ed (er R hx hi) λ a va qq1 hl hv _ => ?_; obtain rfl := qq1
  have h1 : vs.length = va.size := by have := hv.1; simpa using this
  have hsz : n = va.size := by lia
  rw [hsz]
  refine pF r.handled hl λ h' tk hk => ?_
  refine bK (R.keep hk) λ R' t' => ?_
  exact P _ h' tk R' t' hv
noncomputable def xD : Expr -> Bool
 | .Tuple vs _ _ => !vs.all (constantsAlone 8)
 | _ => true
theorem Fc {b : Bool} (h : (!b) = true) : b = false := by
 cases b
 ·rfl
 ·exact h.symm
theorem FJ {c : Prop} [Decidable c] {x : Str} : (if c then some x else none) = none \/ (if c then some x else none) = some x := by
 by_cases h : c
 ·exact .inr (if_pos h)
 ·exact .inl (if_neg h)
theorem wa {f : Expr -> Option Str} (hf : ∀ x p, f (.Name x p) = none \/ f (.Name x p) = some x) : ∀ (tn : List (Str × Pos)), ((tn.map (λ q => Expr.Name q.1 q.2)).filterMap f).length = tn.length -> (tn.map (λ q => Expr.Name q.1 q.2)).filterMap f = tn.map (·.1) := by
 intro tn
 induction tn with
 | nil => intro _; rfl
 | cons q tn ih =>
  intro h
  rw [List.map_cons, List.filterMap_cons] at h |-
  rcases hf q.1 q.2 with c | c
  ·rw [c] at h
   have le := List.length_filterMap_le f (tn.map (λ q => Expr.Name q.1 q.2))
   rw [show ((tn.map (λ q => Expr.Name q.1 q.2)).filterMap f).length = (q :: tn).length from h, List.length_map] at le
   exact absurd le (Nat.not_succ_le_self _)
  ·rw [c] at h |-
   exact congrArg (q.1 :: ·) (ih (Nat.succ.inj h))
theorem tX {tn : List (Str × Pos)} {k : Nat} {p : Pos} {value : Expr} {env : Env} (hc : xD value = true) :
  swappedStores [.Tuple (tn.map (λ q => Expr.Name q.1 q.2)) k p] value env = pure none \/ swappedStores [.Tuple (tn.map (λ q => Expr.Name q.1 q.2)) k p] value env = pure (some (tn.map (·.1))) := by
 cases value
 case Tuple vs kk pp =>
  have hc' : vs.all (constantsAlone 8) = false := Fc hc
  unfold swappedStores
  dsimp only
  split
  ·exact .inl rfl
  ·split
   ·exact .inl rfl
   ·split
    ·exact .inl rfl
    ·rename_i hlen
     split
     ·exact .inl rfl
     ·rw [if_neg (by rw [hc']; exact Bool.false_ne_true)]
      refine .inr (congrArg (λ l => (pure (some l) : Sem (Option (List Str)))) (wa (λ x q => FJ) tn ?_))
      ·simp only [Bool.or_eq_true, bne_iff_ne, ne_eq, not_or, Decidable.not_not] at hlen
       exact hlen.1.trans (List.length_map ..)
 all_goals exact .inl rfl
noncomputable def vQ : List Expr -> List (Str × Pos)
 | .Name x p :: es => (x, p) :: vQ es
 | _ => []
def dI (ks : List Nat) (a : ag -> M PV) : ag -> M (FR × ag) := λ fr Z => cb (a fr Z) λ x Z1 => match oS x Z1 with
 | some vs => if vs.length = ks.length then some ((.next, xN fr ks vs), Z1) else none
 | none => none
theorem fT {env : Env} : ∀ tn : List (Str × Pos), assignEach (tn.map (λ q => Expr.Name q.1 q.2)) env = tn.map (λ q => (false, assign (.Name q.1 q.2) env))
 | [] => rfl
 | q :: tn => by rw [List.map_cons, List.map_cons, <- fT tn]; rfl
theorem fJ {es : List Expr} {k : Nat} {p' p : Pos} {e : Expr} {a : ag -> M PV} (ks : List Nat) (ha : SE S d g ns e a) (hes : es = (vQ es).map (λ q => Expr.Name q.1 q.2) := by rfl) (hk : (vQ es).map (λ q => some q.1) = ks.map (λ k => ns[k]?) := by rfl) (hnd : ks.Nodup := by decide)
  (hsw : ∀ env, swapsWith e (some (.Tuple es k p')) p.line env = pure false := by intro env; rfl) (hc : xD e = true := by rfl) :
  SS S d g ns (.Assign [.Tuple es k p'] e p) (dI ks a) := by
 intro A env W fr Z s Q E f fr' Z' r gl T R F V h P
 refine ba h ?_; clear h; intro x Z1 e1 h
 split at h
 case h_2 => cases h
 rename_i vs hu
 split at h
 case isFalse => cases h
 rename_i hlen
 cases h
 generalize vQ es = tn at hes hk
 subst hes
 have hkl : tn.length = ks.length := by have := congrArg List.length hk; simpa using this
 have hk' : (tn.map (·.1)).map some = ks.map (λ k => ns[k]?) := by rw [<- hk, List.map_map]; rfl
 have hss : swapsWithSole [.Tuple (tn.map (λ q => Expr.Name q.1 q.2)) k p'] e p.line env = pure false := hsw env
 rcases tX (tn := tn) (k := k) (p := p') (env := env) hc with hw | hw
 ·refine Assign_Tuple (ha A env W fr Z s _ E x _ r gl R F V e1 λ W1 v h1 tk1 R1 t1 x1 => ?_) hss hw
  rw [PyProof.Rows.assign_Tuple]
  refine wpAny_bind (wpAny_standAt ?_)
  unfold unpack
  have hstar : (assignEach (tn.map (λ q => Expr.Name q.1 q.2)) env).findIdx? (·.1) = none := by
   rw [fT, List.findIdx?_eq_none_iff]
   intro y hy
   obtain ⟨q, _, rfl⟩ := List.mem_map.mp hy
   rfl
  rw [hstar]
  refine wpAny_bind (wpAny_holding (mo r R1 x1 hu (by rw [fT, List.length_map]; lia) λ vals h2 tk2 R2 t2 hv => ?_))
  have t12 := t1.comp t2
  have hm : (assignEach (tn.map (λ q => Expr.Name q.1 q.2)) env).map (·.2) = (tn.map (λ q => assign (.Name q.1 q.2) env)) := by rw [fT, List.map_map]; rfl
  rw [hm]
  have gen : ∀ (tn' : List (Str × Pos)) (ks' : List Nat) (pvs : List PV) (vals : List Value) (fr : ag) (s : Shared) (Q : Unit -> Shared -> Prop), (tn'.map (·.1)).map some = ks'.map (λ k => ns[k]?) -> tn'.length = pvs.length -> fy W1 Z'.next pvs vals ->
    dA S W1 Z' s.heap -> lT S env W1 Z'.next s.heap -> ik env W1 Z'.next s.heap ns fr ->
    (∀ h' tk, dA S W1 Z' h' -> bE (FX env) W1 Z'.next s.heap W1 Z'.next h' -> lT S env W1 Z'.next h' -> ik env W1 Z'.next h' ns (xN fr ks' pvs) -> Q () { s with heap := h', toks := tk }) ->
    wpAny (model S.prog S.w) A (assignInOrder (tn'.map (λ q => assign (.Name q.1 q.2) env)) vals) Q E s := by
   intro tn'
   induction tn' with
   | nil =>
    intro ks' pvs vals fr s Q a1 a2 a3 R F V P
    exact uI (S := S) T (λ x => storeName env x) (λ x v s Q h => h) [] ks' pvs vals W1 fr Z' s Q a1 a2 a3 R F V P
   | cons q tn' ih =>
    intro ks' pvs vals fr s Q a1 a2 a3 R F V P
    cases ks' with
    | nil => simp at a1
    | cons k' ks' =>
    cases pvs with
    | nil => simp at a2
    | cons pv pvs =>
    cases vals with
    | nil => exact absurd a3.1 (by simp)
    | cons v vals =>
    simp only [List.map_cons, List.cons.injEq] at a1
    have hv0 : VR W1 Z'.next pv v := a3.2 0 _ _ rfl rfl
    have hv1 : fy W1 Z'.next pvs vals := ⟨by have := a3.1; simpa using this, λ j a b p q => a3.2 (j + 1) a b (by simpa using p) (by simpa using q)⟩
    refine assignInOrder_cons (PyProof.Rows.assign_Name (kj T R F V a1.1.symm hv0 λ h1 tk1 R1 t1 F1 V1 => ?_))
    exact ih ks' pvs vals _ _ Q a1.2 (by simpa using a2) hv1 R1 F1 V1 λ h2 tk2 R2 t2 F2 V2 => P h2 tk2 R2 (t1.comp t2) F2 V2
  refine gen tn ks vs vals fr _ _ hk' (by lia) hv R2 (F.trans t12) (V.trans F t12) λ h3 tk3 R3 t3 F3 V3 => ?_
  exact P W1 .next h3 tk3 R3 (t12.toX.comp t3) F3 V3 trivial
 ·refine Assign_Tuple_swapped (ha A env W fr Z s _ E x _ r gl R F V e1 λ W1 v h1 tk1 R1 t1 x1 => ?_) hss hw
  refine mo r R1 x1 hu (by rw [List.length_map]; lia) λ vals h2 tk2 R2 t2 hv => ?_
  have t12 := t1.comp t2
  refine uI (S := S) T (λ x => bindName env x) (λ x v s Q h => wpAny_bindName h) (tn.map (·.1)).reverse ks.reverse vs.reverse vals.reverse W1 fr Z' { s with heap := h2, toks := tk2 } _ ?_ (by simp; lia) hv.reverse R2 (F.trans t12) (V.trans F t12) λ h3 tk3 R3 t3 F3 V3 => ?_
  ·rw [List.map_reverse, List.map_reverse, hk']
  ·rw [vE (by lia) hnd] at V3
   exact P W1 .next h3 tk3 R3 (t12.toX.comp t3) F3 V3 trivial
end
section
variable {S : eP}
variable {d : Nat} {g : Gn} {ns : List Str}
noncomputable def Cd : ag -> M Bool := λ _ _ => none
theorem DE {e : Expr} : ST S d g ns e Cd := by
 intro A env W fr Z s Q E pv Z' r gl R F V e P; exact bG e
theorem yo {c : ag -> M Bool} {b : ag -> M (FR × ag)} : ∀ {n : Nat} {fr : ag} {Z : St} {r}, gu c b n fr Z = some r -> gu c b (n + 1) fr Z = some r := by
 intro n
 induction n with
 | zero => intro fr Z r h; exact bG h
 | succ n ih =>
  intro fr Z r h
  refine ba (show cb (c fr Z) _ = some r from h) λ t Z1 e1 h => ?_
  show cb (c fr Z) _ = some r
  rw [e1]
  show (if t = true then _ else _) = some r
  cases t with
  | false => exact h
  | true =>
   refine ba (show cb (b fr Z1) _ = some r from h) λ x Z2 e2 h => ?_
   show cb (b fr Z1) _ = some r
   rw [e2]
   show (match x.1 with | .next => gu c b (n + 1) x.2 Z2 | .ret v => some ((.ret v, x.2), Z2)) = some r
   obtain ⟨f, fr2⟩ := x
   cases f with
   | next => exact ih h
   | ret v => exact h
theorem uO {c : ag -> M Bool} {b : ag -> M (FR × ag)} {n m : Nat} (h : n <= m) {fr : ag} {Z : St} {r} (e : gu c b n fr Z = some r) : gu c b m fr Z = some r := by
 induction m with
 | zero => rw [Nat.le_zero.mp h] at e; exact e
 | succ m ih =>
  rcases Nat.lt_or_ge m n with q | q
  ·rw [show m + 1 = n by exact Nat.le_antisymm (by assumption) (by assumption)]; exact e
  ·exact yo (ih q)
theorem zc {c : ag -> M Bool} {b : ag -> M (FR × ag)} {n m : Nat} {fr : ag} {Z : St} {r r'} (e : gu c b n fr Z = some r) (e' : gu c b m fr Z = some r') : r = r' := by
 have h1 := uO (Nat.le_max_left n m) e
 have h2 := uO (Nat.le_max_right n m) e'
 rw [h1] at h2; exact Option.some.inj h2
open Classical in
def c0 (c : ag -> M Bool) (b : ag -> M (FR × ag)) : ag -> M (FR × ag) := λ fr Z =>
 if h : ∃ r, ∃ n, gu c b n fr Z = some r then some (Classical.choose h) else none
theorem jD {c : ag -> M Bool} {b : ag -> M (FR × ag)} {fr : ag} {Z : St} {r} (e : c0 c b fr Z = some r) : ∃ n, gu c b n fr Z = some r := by
 unfold c0 at e
 split at e
 ·rename_i h
  have := Classical.choose_spec h
  rw [Option.some.inj e] at this
  exact this
 ·exact bG e
theorem oi {c : ag -> M Bool} {b : ag -> M (FR × ag)} {n : Nat} {fr : ag} {Z : St} {r} (e : gu c b n fr Z = some r) : c0 c b fr Z = some r := by
 unfold c0
 have h : ∃ r, ∃ n, gu c b n fr Z = some r := ⟨r, n, e⟩
 rw [dif_pos h]
 refine br (Classical.choose_spec h) λ m hm => ?_
 rw [zc e hm]
theorem jd {c : ag -> M Bool} {b : ag -> M (FR × ag)} {fr : ag} {Z Z1 : St} (h : c fr Z = some (false, Z1)) : c0 c b fr Z = some ((.next, fr), Z1) :=
 oi (n := 1) (by show cb (c fr Z) _ = _; rw [h]; rfl)
theorem eR {c : ag -> M Bool} {b : ag -> M (FR × ag)} {fr fr2 : ag} {Z Z1 Z2 : St} {r} (h : c fr Z = some (true, Z1)) (h2 : b fr Z1 = some ((.next, fr2), Z2)) (h3 : c0 c b fr2 Z2 = some r) : c0 c b fr Z = some r := by
 refine br (jD h3) λ n hn => ?_
 exact oi (n := n + 1) (by show cb (c fr Z) _ = _; rw [h]; show cb (b fr Z1) _ = _; rw [h2]; exact hn)
theorem kq {c : ag -> M Bool} {b : ag -> M (FR × ag)} {fr fr2 : ag} {Z Z1 Z2 : St} {v} (h : c fr Z = some (true, Z1)) (h2 : b fr Z1 = some ((.ret v, fr2), Z2)) : c0 c b fr Z = some ((.ret v, fr2), Z2) :=
 oi (n := 1) (by show cb (c fr Z) _ = _; rw [h]; show cb (b fr Z1) _ = _; rw [h2]; rfl)
theorem iy {c p bs ec eb} (hc : ST S d g ns c ec) (hb : SB S d g ns bs eb) : SS S d g ns (.While c bs [] p) (c0 ec eb) := by
 intro A env W fr Z s Q E f fr' Z' r gl T R F V e P
 refine br (jD e) λ n hn => ?_
 exact BP n hc hb A env W fr Z s Q E f fr' Z' r gl T R F V hn P
theorem aC {l : List Str} {x : Str} (k : Nat) (h : l[k]? = some x := by rfl) : x ∈ l := List.mem_of_getElem? h
noncomputable def bw (K : Frag) (a : Addr) : List Stmt := match K.lookup a with | some ⟨_, _, .func fd, _⟩ => (match fd.body with | .stmts b => b | _ => []) | _ => []
noncomputable def bc (K : Frag) (a : Addr) : Scope := match K.lookup a with | some ⟨_, _, .func fd, _⟩ => fd.scope | _ => default
noncomputable def sg : Nat -> List Str
 | 0 => ["number", "begin", "end", "front_advance", "rear_advance", "limit", "offset", "is_red", "left", "right", "parent"]
 | 1 => ["root", "count"]
 | 2 => ["number", "node", "home", "plist"]
 | 3 => ["tree", "overlays", "rules"]
 | 4 => ["lisp", "nil", "true", "category", "front_sticky", "rear_nonsticky", "evaporate", "priority", "defaults"]
 | 5 => ["first", "nil", "true", "plists"]
 | _ => []
theorem AI : ∀ (c k k' : Nat) (x : Str), (sg c)[k]? = some x -> (sg c)[k']? = some x -> k = k' := by
 have key : ∀ (l : List Str), l.Nodup -> ∀ (k k' : Nat) (x : Str), l[k]? = some x -> l[k']? = some x -> k = k' := λ l hl k k' x h1 h2 =>
  (List.getElem?_inj (List.getElem?_eq_some_iff.mp h1).1 hl).mp (h1.trans h2.symm)
 intro c
 match c with
 | 0 => exact key _ (by decide +kernel)
 | 1 => exact key _ (by decide +kernel)
 | 2 => exact key _ (by decide +kernel)
 | 3 => exact key _ (by decide +kernel)
 | 4 => exact key _ (by decide +kernel)
 | 5 => exact key _ (by decide +kernel)
 | _ + 6 => intro k k' x h; simp [sg] at h
end
noncomputable def aX : List (Nat × Nat) := [(0, 1)]
noncomputable def fE : List (Nat × Nat) := [(4, 3)]
noncomputable def dT : List (Nat × Nat) := [(1, 1)]
noncomputable def l9 : List (Nat × Nat) := [(4, 8)]
noncomputable def bx : List (Nat × Nat) := [(0, 2)]
noncomputable def dm : List (Nat × Nat) := [(4, 6)]
noncomputable def lZ : List (Nat × Nat) := [(5, 0)]
noncomputable def hW : List (Nat × Nat) := [(0, 3)]
noncomputable def iO : List (Nat × Nat) := [(4, 4)]
noncomputable def cK : List (Nat × Nat) := [(2, 2)]
noncomputable def aJ : List (Nat × Nat) := [(0, 7)]
noncomputable def aM : List (Nat × Nat) := [(0, 8)]
noncomputable def a9 : List (Nat × Nat) := [(0, 5)]
noncomputable def wj : List (Nat × Nat) := [(4, 0)]
noncomputable def jB : List (Nat × Nat) := [(4, 1), (5, 1)]
noncomputable def bW : List (Nat × Nat) := [(2, 1)]
noncomputable def bP : List (Nat × Nat) := [(0, 0), (2, 0)]
noncomputable def aL : List (Nat × Nat) := [(0, 6)]
noncomputable def ca : List (Nat × Nat) := [(3, 1)]
noncomputable def aR : List (Nat × Nat) := [(0, 10)]
noncomputable def da : List (Nat × Nat) := [(2, 3)]
noncomputable def pV : List (Nat × Nat) := [(5, 3)]
noncomputable def lQ : List (Nat × Nat) := [(4, 7)]
noncomputable def iQ : List (Nat × Nat) := [(0, 4)]
noncomputable def gP : List (Nat × Nat) := [(4, 5)]
noncomputable def aH : List (Nat × Nat) := [(0, 9)]
noncomputable def bL : List (Nat × Nat) := [(1, 0)]
noncomputable def dy : List (Nat × Nat) := [(3, 2)]
noncomputable def cL : List (Nat × Nat) := [(3, 0)]
noncomputable def kW : List (Nat × Nat) := [(4, 2), (5, 2)]
noncomputable def wB : Array Value := #[.str "category" 822, .str "front-sticky" 823, .str "rear-nonsticky" 824, .str "evaporate" 825, .str "priority" 826]
theorem AJ : ∀ j, j < wB.size -> ∃ y t, wB[j]? = some (.str y t) := by
 intro j h
 have h' : j < 5 := h
 cases j with
 | zero => exact ⟨_, _, rfl⟩
 | succ j =>
 cases j with
 | zero => exact ⟨_, _, rfl⟩
 | succ j =>
 cases j with
 | zero => exact ⟨_, _, rfl⟩
 | succ j =>
 cases j with
 | zero => exact ⟨_, _, rfl⟩
 | succ j =>
 cases j with
 | zero => exact ⟨_, _, rfl⟩
 | succ j => exact absurd h' (Nat.not_lt_of_le (Nat.le_add_left 5 j))
def gR : ag -> M (FR × ag) :=
  (ai (am bP (ab 0) (ab 1))
  (ai (am aX (ab 0) (ab 2))
  (ai (am bx (ab 0) (ab 3))
  (ai (am hW (ab 0) (ab 4))
  (ai (am iQ (ab 0) (ab 5))
  (ai (am a9 (ab 0) (ab 3))
  (ai (am aL (ab 0) (aS 0))
  (ai (am aJ (ab 0) (de false))
  (ai (am aM (ab 0) bq)
  (ai (am aH (ab 0) bq)
  (ai (am aR (ab 0) bq)
  aA)))))))))))
def gZ : List PV -> M PV := bg 6 0 gR
def gQ : ag -> M (FR × ag) :=
  (ai (am bL (ab 0) bq)
  (ai (am dT (ab 0) (aS 0))
  aA))
def gN : List PV -> M PV := bg 1 0 gQ
def qf : ag -> M (FR × ag) :=
  (ai (cX (aY (ak aL (ab 0)) (az fq (aS 0))) (ai jl
  aA) aA)
  (ai (am aX (ab 0) (bA dq (ak aX (ab 0)) (ak aL (ab 0))))
  (ai (am bx (ab 0) (bA dq (ak bx (ab 0)) (ak aL (ab 0))))
  (ai (am a9 (ab 0) (bA dq (ak a9 (ab 0)) (ak aL (ab 0))))
  (ai (eX 1 (fS (ac (ak aM (ab 0)) (ac (ak aH (ab 0)) aj))) (ai (cX (aY (ab 1) (az bR bq)) (ai (am aL (ab 1) (bA dq (ak aL (ab 1)) (ak aL (ab 0))))
  aA) aA)
  aA))
  (ai (am aL (ab 0) (aS 0))
  aA))))))
def bO : List PV -> M PV := bg 1 1 qf
def jy : ag -> M (FR × ag) :=
  (ai (aF 1 (cQ aj))
  (ai (c0 (aY (ab 0) (az bR bq)) (ai (bi (ds mi dv (ab 1) (ab 0)))
  (ai (aF 0 (ak aR (ab 0)))
  aA)))
  (ai (eX 2 (Dp (ab 1)) (ai (bi (ap bO (ac (ab 2) aj)))
  aA))
  aA)))
def dH : List PV -> M PV := bg 1 2 jy
def je : ag -> M (FR × ag) :=
  (ai (aF 1 (ak bx (ab 0)))
  (ai (eX 2 (fS (ac (ak aM (ab 0)) (ac (ak aH (ab 0)) aj))) (ai (cX (aY (ab 2) (az bR bq)) (ai (aF 1 (ap lC (ac (ab 1) (ac (bA dq (ak a9 (ab 2)) (ak aL (ab 2))) aj))))
  aA) aA)
  aA))
  (ai (cJ (ab 1))
  aA)))
def ck : List PV -> M PV := bg 1 2 je
def gK : ag -> M (FR × ag) :=
  (ai (c0 (aY (ab 0) (az bR bq)) (ai (aF 1 (ap ck (ac (ab 0) aj)))
  (ai (cX (aY (ab 1) (az fq (ak a9 (ab 0)))) (ai jl
  aA) aA)
  (ai (am a9 (ab 0) (ab 1))
  (ai (aF 0 (ak aR (ab 0)))
  aA)))))
  aA)
def eM : List PV -> M PV := bg 1 1 gK
def yM : ag -> M (FR × ag) :=
  (ai (cX (aY (ab 1) (az uQ bq)) (ai (am bL (ab 0) (ab 3))
  aA) (ai (cX (aY (ak aM (ab 1)) (az uQ (ab 2))) (ai (am aM (ab 1) (ab 3))
  aA) (ai (am aH (ab 1) (ab 3))
  aA))
  aA))
  (ai (cX (aY (ab 3) (az bR bq)) (ai (am aR (ab 3) (ab 1))
  aA) aA)
  aA))
def nv : List PV -> M PV := bg 4 0 yM
def mv : ag -> M (FR × ag) :=
  (ai (aF 2 (ak aH (ab 1)))
  (ai (bi (ap bO (ac (ab 1) aj)))
  (ai (bi (ap bO (ac (ab 2) aj)))
  (ai (am aH (ab 1) (ak aM (ab 2)))
  (ai (cX (aY (ak aM (ab 2)) (az bR bq)) (ai (am aR (ak aM (ab 2)) (ab 1))
  aA) aA)
  (ai (bi (ap nv (ac (ab 0) (ac (ak aR (ab 1)) (ac (ab 1) (ac (ab 2) aj))))))
  (ai (am aM (ab 2) (ab 1))
  (ai (am aR (ab 1) (ab 2))
  (ai (am a9 (ab 1) (ap ck (ac (ab 1) aj)))
  (ai (am a9 (ab 2) (ap ck (ac (ab 2) aj)))
  aA))))))))))
def gA : List PV -> M PV := bg 2 1 mv
def kI : ag -> M (FR × ag) :=
  (ai (aF 2 (ak aM (ab 1)))
  (ai (bi (ap bO (ac (ab 1) aj)))
  (ai (bi (ap bO (ac (ab 2) aj)))
  (ai (am aM (ab 1) (ak aH (ab 2)))
  (ai (cX (aY (ak aH (ab 2)) (az bR bq)) (ai (am aR (ak aH (ab 2)) (ab 1))
  aA) aA)
  (ai (bi (ap nv (ac (ab 0) (ac (ak aR (ab 1)) (ac (ab 1) (ac (ab 2) aj))))))
  (ai (am aH (ab 2) (ab 1))
  (ai (am aR (ab 1) (ab 2))
  (ai (am a9 (ab 1) (ap ck (ac (ab 1) aj)))
  (ai (am a9 (ab 2) (ap ck (ac (ab 2) aj)))
  aA))))))))))
def fL : List PV -> M PV := bg 2 1 kI
def tf : ag -> M (FR × ag) :=
  (ai (cJ (ui (eD (ab 0) (az bR bq)) (ak aJ (ab 0))))
  aA)
def ge : List PV -> M PV := bg 1 0 tf
def iP : ag -> M (FR × ag) :=
  (ai (aF 3 (ak aR (ab 1)))
  (ai (cX (c9 (bz (ab 2)) (c9 (aY (ak aH (ab 3)) (az uQ (ab 1))) cR)) (ai (bi (ap gA (ac (ab 0) (ac (ab 3) aj))))
  (ai (cJ (ab 3))
  aA)) aA)
  (ai (cX (c9 (nA (bz (ab 2))) (c9 (aY (ak aM (ab 3)) (az uQ (ab 1))) cR)) (ai (bi (ap fL (ac (ab 0) (ac (ab 3) aj))))
  (ai (cJ (ab 3))
  aA)) aA)
  (ai (cJ (ab 1))
  aA))))
def gk : List PV -> M PV := bg 3 1 iP
def gI : ag -> M (FR × ag) :=
  (ai (c0 (bz (ap ge (ac (ak aR (ab 1)) aj))) (ai (aF 2 (ak aR (ab 1)))
  (ai (aF 3 (ak aR (ab 2)))
  (ai (aF 4 (eD (ak aM (ab 3)) (az uQ (ab 2))))
  (ai (aF 5 (qi (bz (ab 4)) (ak aH (ab 3)) (ak aM (ab 3))))
  (ai (cX (bz (ap ge (ac (ab 5) aj))) (ai (am aJ (ab 2) (de false))
  (ai (am aJ (ab 5) (de false))
  (ai (am aJ (ab 3) (de true))
  (ai (aF 1 (ab 3))
  aA)))) (ai (aF 1 (ap gk (ac (ab 0) (ac (ab 1) (ac (ab 4) aj)))))
  (ai (am aJ (ak aR (ab 1)) (de false))
  (ai (am aJ (ab 3) (de true))
  (ai (cX (bz (ab 4)) (ai (bi (ap fL (ac (ab 0) (ac (ab 3) aj))))
  aA) (ai (bi (ap gA (ac (ab 0) (ac (ab 3) aj))))
  aA))
  aA)))))
  aA))))))
  (ai (am aJ (ak bL (ab 0)) (de false))
  aA))
def dj : List PV -> M PV := bg 2 4 gI
def kK : ag -> M (FR × ag) :=
  (ai (am dT (ab 0) (bA dq (ak dT (ab 0)) (aS 1)))
  (ai (am aM (ab 1) bq)
  (ai (am aH (ab 1) bq)
  (ai (am aR (ab 1) bq)
  (ai (am aL (ab 1) (aS 0))
  (ai (am a9 (ab 1) (ak bx (ab 1)))
  (ai (cX (aY (ak bL (ab 0)) (az uQ bq)) (ai (am aJ (ab 1) (de false))
  (ai (am bL (ab 0) (ab 1))
  (ai jl
  aA))) aA)
  (ai (aF 2 (ak bL (ab 0)))
  (ai (aF 3 bq)
  (ai (aF 4 (de false))
  (ai (c0 (aY (ab 2) (az bR bq)) (ai (bi (ap bO (ac (ab 2) aj)))
  (ai (am a9 (ab 2) (ap lC (ac (ak a9 (ab 2)) (ac (ak bx (ab 1)) aj))))
  (ai (aF 3 (ab 2))
  (ai (aF 4 (eD (ak aX (ab 1)) (az oZ (ak aX (ab 2)))))
  (ai (aF 2 (qi (bz (ab 4)) (ak aM (ab 2)) (ak aH (ab 2))))
  aA))))))
  (ai (am aR (ab 1) (ab 3))
  (ai (cX (bz (ab 4)) (ai (am aM (ab 3) (ab 1))
  aA) (ai (am aH (ab 3) (ab 1))
  aA))
  (ai (am aJ (ab 1) (de true))
  (ai (bi (ap dj (ac (ab 0) (ac (ab 1) aj))))
  aA)))))))))))))))
def go : List PV -> M PV := bg 2 3 kK
def jV : ag -> M (FR × ag) :=
  (ai (bi (ap bO (ac (ab 0) aj)))
  (ai (c0 (aY (ak aM (ab 0)) (az bR bq)) (ai (aF 0 (ak aM (ab 0)))
  (ai (bi (ap bO (ac (ab 0) aj)))
  aA)))
  (ai (cJ (ab 0))
  aA)))
def io : List PV -> M PV := bg 1 0 jV
def kM : ag -> M (FR × ag) :=
  (ai (bi (ap nv (ac (ab 0) (ac (ak aR (ab 1)) (ac (ab 1) (ac (ab 2) aj))))))
  (ai (am aM (ab 2) (ak aM (ab 1)))
  (ai (am aH (ab 2) (ak aH (ab 1)))
  (ai (am aJ (ab 2) (ak aJ (ab 1)))
  (ai (eX 3 (fS (ac (ak aM (ab 2)) (ac (ak aH (ab 2)) aj))) (ai (cX (aY (ab 3) (az bR bq)) (ai (am aR (ab 3) (ab 2))
  aA) aA)
  aA))
  (ai (am a9 (ab 2) (ap ck (ac (ab 2) aj)))
  aA))))))
def iZ : List PV -> M PV := bg 3 1 kM
def jt : ag -> M (FR × ag) :=
  (ai (cX (bz (ab 2)) (ai (bi (ap gA (ac (ab 0) (ac (ab 1) aj))))
  aA) (ai (bi (ap fL (ac (ab 0) (ac (ab 1) aj))))
  aA))
  aA)
def eJ : List PV -> M PV := bg 3 0 jt
def kD : ag -> M (FR × ag) :=
  (ai (cJ (qi (bz (ab 1)) (ak aH (ab 0)) (ak aM (ab 0))))
  aA)
def fR : List PV -> M PV := bg 2 0 kD
def mu : ag -> M (FR × ag) :=
  (ai (aF 4 (ap fR (ac (ab 2) (ac (ab 3) aj))))
  (ai (cX (bz (ap ge (ac (ab 4) aj))) (ai (am aJ (ab 4) (de false))
  (ai (am aJ (ab 2) (de true))
  (ai (bi (ap eJ (ac (ab 0) (ac (ab 2) (ac (ab 3) aj)))))
  (ai (aF 4 (ap fR (ac (ab 2) (ac (ab 3) aj))))
  aA)))) aA)
  (ai (aF 5 (qi (bz (ab 3)) (ak aH (ab 4)) (ak aM (ab 4))))
  (ai (aF 6 (qi (bz (ab 3)) (ak aM (ab 4)) (ak aH (ab 4))))
  (ai (cX (c9 (nA (bz (ap ge (ac (ab 5) aj)))) (c9 (nA (bz (ap ge (ac (ab 6) aj)))) cR)) (ai (am aJ (ab 4) (de true))
  (ai (cX (Dg (bz (ak aJ (ab 2))) (Dg (aY (ab 2) (az uQ (ak bL (ab 0)))) pX)) (ai (am aJ (ab 2) (de false))
  (ai (cJ bq)
  aA)) aA)
  (ai (cJ (ab 2))
  aA))) aA)
  (ai (cX (nA (bz (ap ge (ac (ab 5) aj)))) (ai (am aJ (ab 6) (de false))
  (ai (am aJ (ab 4) (de true))
  (ai (bi (ap eJ (ac (ab 0) (ac (ab 4) (ac (ty (ab 3)) aj)))))
  (ai (aF 4 (ap fR (ac (ab 2) (ac (ab 3) aj))))
  (ai (aF 5 (qi (bz (ab 3)) (ak aH (ab 4)) (ak aM (ab 4))))
  aA))))) aA)
  (ai (am aJ (ab 4) (ak aJ (ab 2)))
  (ai (am aJ (ab 2) (de false))
  (ai (am aJ (ab 5) (de false))
  (ai (bi (ap eJ (ac (ab 0) (ac (ab 2) (ac (ab 3) aj)))))
  (ai (cJ bq)
  aA)))))))))))
def jQ : List PV -> M PV := bg 4 3 mu
def ii : ag -> M (FR × ag) :=
  (ai (c0 (c9 (aY (ab 1) (az bR (ak bL (ab 0)))) (c9 (nA (bz (ap ge (ac (ab 1) aj)))) cR)) (ai (aF 3 (eD (ak aM (ab 2)) (az uQ (ab 1))))
  (ai (aF 1 (ap jQ (ac (ab 0) (ac (ab 1) (ac (ab 2) (ac (ab 3) aj))))))
  (ai (cX (aY (ab 1) (az uQ bq)) (ai jl
  aA) aA)
  (ai (aF 2 (ak aR (ab 1)))
  aA)))))
  (ai (cX (aY (ab 1) (az bR bq)) (ai (am aJ (ab 1) (de false))
  aA) aA)
  aA))
def fH : List PV -> M PV := bg 3 1 ii
def md : ag -> M (FR × ag) :=
  (ai (am dT (ab 0) (bA hH (ak dT (ab 0)) (aS 1)))
  (ai (bi (ap dH (ac (ab 1) aj)))
  (ai (aF 2 (ab 1))
  (ai (cX (c9 (aY (ak aM (ab 1)) (az bR bq)) (c9 (aY (ak aH (ab 1)) (az bR bq)) cR)) (ai (aF 2 (ap io (ac (ak aH (ab 1)) aj)))
  aA) aA)
  (ai (aF 3 (qi (aY (ak aM (ab 2)) (az bR bq)) (ak aM (ab 2)) (ak aH (ab 2))))
  (ai (aF 4 (ak aR (ab 2)))
  (ai (aF 5 (ak aJ (ab 2)))
  (ai (bi (ap nv (ac (ab 0) (ac (ab 4) (ac (ab 2) (ac (ab 3) aj))))))
  (ai (cX (aY (ab 2) (az bR (ab 1))) (ai (bi (ap iZ (ac (ab 0) (ac (ab 1) (ac (ab 2) aj)))))
  (ai (aF 4 (qi (aY (ab 4) (az uQ (ab 1))) (ab 2) (ab 4)))
  aA)) aA)
  (ai (aF 6 (ab 4))
  (ai (c0 (aY (ab 6) (az bR bq)) (ai (am a9 (ab 6) (ap ck (ac (ab 6) aj)))
  (ai (aF 6 (ak aR (ab 6)))
  aA)))
  (ai (cX (nA (bz (ab 5))) (ai (bi (ap fH (ac (ab 0) (ac (ab 3) (ac (ab 4) aj)))))
  aA) aA)
  (ai (am aM (ab 1) bq)
  (ai (am aH (ab 1) bq)
  (ai (am aR (ab 1) bq)
  aA)))))))))))))))
def fD : List PV -> M PV := bg 2 5 md
def ff : ag -> M (FR × ag) :=
  (ai (aF 3 (cQ aj))
  (ai (aF 4 (cQ aj))
  (ai (aF 5 (ak bL (ab 0)))
  (ai (c0 (Dg (aY (ab 5) (az bR bq)) (Dg (aY (ap fM (ac (ab 4) aj)) (az tD (aS 0))) pX)) (ai (c0 (aY (ab 5) (az bR bq)) (ai (bi (ap bO (ac (ab 5) aj)))
  (ai (cX (aY (ak a9 (ab 5)) (az iN (ab 1))) (ai (aF 5 bq)
  aA) (ai (bi (ds mi dv (ab 4) (ab 5)))
  (ai (aF 5 (ak aM (ab 5)))
  aA)))
  aA)))
  (ai (cX (aY (ap fM (ac (ab 4) aj)) (az tD (aS 0))) (ai (aF 5 (nr mi xc (ab 4)))
  (ai (cX (c9 (aY (ak aX (ab 5)) (az oZ (ab 2))) (c9 (aY (ak bx (ab 5)) (az EQ (ab 1))) cR)) (ai (bi (ds mi dv (ab 3) (ab 5)))
  aA) aA)
  (ai (aF 5 (qi (aY (ak aX (ab 5)) (az oZ (ab 2))) (ak aH (ab 5)) bq))
  aA))) aA)
  aA)))
  (ai (cJ (ab 3))
  aA)))))
def bF : List PV -> M PV := bg 3 3 ff
def jM : ag -> M (FR × ag) :=
  (ai (cX (aY (ab 2) (az oZ (aS 0))) (ai jl
  aA) aA)
  (ai (aF 3 (cQ (ac (ak bL (ab 0)) aj)))
  (ai (c0 (aY (ap fM (ac (ab 3) aj)) (az tD (aS 0))) (ai (aF 4 (nr mi xc (ab 3)))
  (ai (cX (aY (ab 4) (az bR bq)) (ai (bi (ap bO (ac (ab 4) aj)))
  (ai (cX (aY (ak a9 (ab 4)) (az tD (ab 1))) (ai (cX (c9 (aY (ak aH (ab 4)) (az bR bq)) (c9 (aY (ak aX (ab 4)) (az tD (bA dq (ab 1) (ab 2)))) cR)) (ai (am aL (ak aH (ab 4)) (bA hH (ak aL (ak aH (ab 4))) (ab 2)))
  aA) (ai (bi (ds mi dv (ab 3) (ak aH (ab 4))))
  aA))
  (ai (bi (ds mi dv (ab 3) (ak aM (ab 4))))
  (ai (cX (aY (ak aX (ab 4)) (az tD (ab 1))) (ai (am aX (ab 4) (ap lC (ac (ab 1) (ac (bA hH (ak aX (ab 4)) (ab 2)) aj))))
  aA) aA)
  (ai (cX (aY (ak bx (ab 4)) (az tD (ab 1))) (ai (am bx (ab 4) (ap lC (ac (ab 1) (ac (bA hH (ak bx (ab 4)) (ab 2)) aj))))
  aA) aA)
  (ai (bi (ap eM (ac (ab 4) aj)))
  aA))))) aA)
  aA)) aA)
  aA)))
  aA)))
def iM : List PV -> M PV := bg 3 2 jM
def Hq : ag -> M (FR × ag) :=
  (ai (cX (Dg (bz (ou (ab 0))) (Dg (bz (ou (ab 1))) pX)) (ai (cJ (ui (ou (ab 0)) (ui (ou (ab 1)) (eD (ab 0) (az fq (ab 1))))))
  aA) aA)
  (ai (cJ (eD (ab 0) (az fq (ab 1))))
  aA))
def AC : List PV -> M PV := bg 2 0 Hq
def fK : ag -> M (FR × ag) :=
  (ai (eX 2 (ap fG (ac (ap fM (ac (ab 0) aj)) aj)) (ai (cX (aY (bp (bp (ab 0) (ab 2)) (aS 0)) (az fq (ab 1))) (ai (cJ (ab 2))
  aA) aA)
  aA))
  (ai (cJ (Gx (aS 1)))
  aA))
def cP : List PV -> M PV := bg 2 1 fK
def jP : ag -> M (FR × ag) :=
  (ai (aF 2 (ap cP (ac (ab 0) (ac (ab 1) aj))))
  (ai (cJ (qi (aY (ab 2) (az EQ (aS 0))) (fS (ac (bp (bp (ab 0) (ab 2)) (aS 1)) aj)) bq))
  aA))
def em : List PV -> M PV := bg 2 1 jP
def oG : ag -> M (FR × ag) :=
  (ai (aF 3 (ap cP (ac (ab 0) (ac (ab 1) aj))))
  (ai (cX (aY (ab 3) (az iN (aS 0))) (ai (cJ (bA qY (ab 0) (cQ (ac (fS (ac (ab 1) (ac (ab 2) aj))) aj))))
  aA) aA)
  (ai zT
  aA)))
def gS : List PV -> M PV := bg 3 1 oG
def oQ : ag -> M (FR × ag) :=
  (ai (aF 3 (ap cP (ac (ab 0) (ac (ab 1) aj))))
  (ai (cJ (ui (eD (ab 3) (az EQ (aS 0))) (ap AC (ac (bp (bp (ab 0) (ab 3)) (aS 1)) (ac (ab 2) aj)))))
  aA))
def gV : List PV -> M PV := bg 3 1 oQ
def jr : ag -> M (FR × ag) :=
  (ai (cJ (bA dq (ak lZ (ab 0)) (Am wB (ab 1))))
  aA)
def c7 : List PV -> M PV := bg 2 0 jr
def iA : ag -> M (FR × ag) :=
  (ai (am wj (ab 0) (ab 1))
  (ai (am jB (ab 0) (ak jB (ab 1)))
  (ai (am kW (ab 0) (ak kW (ab 1)))
  (ai (am fE (ab 0) (mR 5 c7 (ab 1) (ac (Be "category") aj)))
  (ai (am iO (ab 0) (mR 5 c7 (ab 1) (ac (Be "front-sticky") aj)))
  (ai (am gP (ab 0) (mR 5 c7 (ab 1) (ac (Be "rear-nonsticky") aj)))
  (ai (am dm (ab 0) (mR 5 c7 (ab 1) (ac (Be "evaporate") aj)))
  (ai (am lQ (ab 0) (mR 5 c7 (ab 1) (ac (Be "priority") aj)))
  (ai (am l9 (ab 0) pU)
  aA)))))))))
def iE : List PV -> M PV := bg 2 0 iA
def dD : ag -> M (FR × ag) :=
  (ai (cJ (ap AC (ac (ab 1) (ac (ak jB (ab 0)) aj))))
  aA)
def bC : List PV -> M PV := bg 2 0 dD
def lc : ag -> M (FR × ag) :=
  (ai (aF 3 (ap em (ac (ab 1) (ac (ab 2) aj))))
  (ai (cX (aY (ab 3) (az uQ bq)) (ai (aF 4 (ap em (ac (ab 1) (ac (ak fE (ab 0)) aj))))
  (ai (cX (c9 (aY (ab 4) (az bR bq)) (c9 Cd cR)) (ai zT
  aA) aA)
  aA)) aA)
  (ai (cJ (qi (aY (ab 3) (az uQ bq)) (ak jB (ab 0)) (bp (ab 3) (aS 0))))
  aA)))
def jg : List PV -> M PV := bg 3 2 lc
def gc : List PV -> M PV := kU 0 gZ
def eS : ag -> M (FR × ag) :=
  (ai (am bP (ab 0) (ab 1))
  (ai (am bW (ab 0) (ap gc (ac (ab 1) (ac (aS 0) (ac (aS 0) (ac (ab 2) (ac (ab 3) aj)))))))
  (ai (am cK (ab 0) bq)
  (ai (am da (ab 0) (cQ aj))
  aA))))
def eW : List PV -> M PV := bg 4 0 eS
def m0 : List PV -> M PV := kU 1 gN
def gU : ag -> M (FR × ag) :=
  (ai (am cL (ab 0) (ap m0 aj))
  (ai (am ca (ab 0) pU)
  (ai (am dy (ab 0) (ab 1))
  aA)))
def gO : List PV -> M PV := bg 2 0 gU
def kO : ag -> M (FR × ag) :=
  (ai (cJ (dV [true, false] (ab 1) cR (bp (ak ca (ab 1)) (ak bP (ab 0)))))
  aA)
def gv : List PV -> M PV := bg 2 0 kO
def iu : ag -> M (FR × ag) :=
  (ai (cJ (ap jg (ac (ab 0) (ac (ak da (ab 1)) (ac (ab 2) aj)))))
  aA)
def eA : List PV -> M PV := bg 3 0 iu
def iv : ag -> M (FR × ag) :=
  (ai (cJ (ty (mR 4 bC (ab 0) (ac (ap eA (ac (ab 0) (ac (ab 1) (ac (ak dm (ab 0)) aj)))) aj))))
  aA)
def cA : List PV -> M PV := bg 2 0 iv
def hR : ag -> M (FR × ag) :=
  (ai (cX (aY (ak cK (ab 0)) (az bR bq)) (ai (bi (ap fD (ac (ak cL (ak cK (ab 0))) (ac (ak bW (ab 0)) aj))))
  (ai (bi (ds EI nc (ak ca (ak cK (ab 0))) (ak bP (ab 0))))
  (ai (am cK (ab 0) bq)
  aA))) aA)
  aA)
def cF : List PV -> M PV := bg 1 0 hR
def jJ : ag -> M (FR × ag) :=
  (ai (bi (ap iM (ac (ak cL (ab 0)) (ac (ab 1) (ac (ab 2) aj)))))
  (ai (eX 3 (ap gv (ac (ab 0) (ac (ap bF (ac (ak cL (ab 0)) (ac (ab 1) (ac (ab 1) aj)))) aj))) (ai (cX (c9 (aY (ak aX (ak bW (ab 3))) (az fq (ak bx (ak bW (ab 3))))) (c9 (bz (ap cA (ac (ak dy (ab 0)) (ac (ab 3) aj)))) cR)) (ai (bi (ap cF (ac (ab 3) aj)))
  aA) aA)
  aA))
  aA))
def iC : List PV -> M PV := bg 3 1 jJ
def dZ : ag -> M (FR × ag) :=
  (ai (bi (ap iC (ac (ab 0) (ac (ab 1) (ac (bA hH (ab 2) (ab 1)) aj)))))
  aA)
def cE : List PV -> M PV := bg 3 0 dZ
def lm : ag -> M (FR × ag) :=
  (ai (bi (ap dH (ac (ak bW (ab 0)) aj)))
  (ai (cJ (ak aX (ak bW (ab 0))))
  aA))
def cN : List PV -> M PV := bg 1 0 lm
def nl : ag -> M (FR × ag) :=
  (ai (bi (ap dH (ac (ak bW (ab 0)) aj)))
  (ai (cJ (ak bx (ak bW (ab 0))))
  aA))
def dc : List PV -> M PV := bg 1 0 nl
def zZ : ag -> M (FR × ag) :=
  (ai (bi (ap cF (ac (ab 0) aj)))
  (ai (am aX (ak bW (ab 0)) (ap rY (ac (ab 2) (ac (ab 3) aj))))
  (ai (am bx (ak bW (ab 0)) (ap lC (ac (ab 2) (ac (ab 3) aj))))
  (ai (am cK (ab 0) (ab 1))
  (ai (fw (ak ca (ab 1)) (ak bP (ab 0)) (ab 0))
  (ai (bi (ap go (ac (ak cL (ab 1)) (ac (ak bW (ab 0)) aj))))
  aA))))))
def qd : List PV -> M PV := bg 4 0 zZ
def kA : List PV -> M PV := kU 2 eW
def lR : ag -> M (FR × ag) :=
  (ai (aF 6 (ap kA (ac (ab 1) (ac (ab 4) (ac (ab 5) aj)))))
  (ai (bi (ap qd (ac (ab 6) (ac (ab 0) (ac (ab 2) (ac (ab 3) aj))))))
  (ai (cJ (ab 6))
  aA)))
def eI : List PV -> M PV := bg 6 1 lR
def gi : ag -> M (FR × ag) :=
  (ai (bi (ap qd (ac (ab 0) (ac (ab 1) (ac (ab 2) (ac (ab 3) aj))))))
  (ai (cX (c9 (aY (ab 2) (az fq (ab 3))) (c9 (bz (ap cA (ac (ak dy (ab 1)) (ac (ab 0) aj)))) cR)) (ai (bi (ap cF (ac (ab 0) aj)))
  aA) aA)
  aA))
def dK : List PV -> M PV := bg 4 0 gi
def mY : ag -> M (FR × ag) :=
  (ai (aF 4 (ty (ap gV (ac (ak da (ab 1)) (ac (ab 2) (ac (ab 3) aj))))))
  (ai (cX (bz (ab 4)) (ai (am da (ab 1) (ap gS (ac (ak da (ab 1)) (ac (ab 2) (ac (ab 3) aj)))))
  aA) aA)
  (ai (cX (c9 (aY (ab 2) (az fq (ak dm (ab 0)))) (c9 (nA (bz (mR 4 bC (ab 0) (ac (ab 3) aj)))) (c9 (aY (ak cK (ab 1)) (az bR bq)) cR))) (ai (cX (aY (ap cN (ac (ab 1) aj)) (az fq (ap dc (ac (ab 1) aj)))) (ai (bi (ap cF (ac (ab 1) aj)))
  aA) aA)
  aA) aA)
  (ai (cJ (ab 4))
  aA))))
def ew : List PV -> M PV := bg 4 1 mY
def im : ag -> M (FR × ag) :=
  (ai (cJ (ap gv (ac (ab 0) (ac (dV [false, true] (ap bF (ac (ak cL (ab 0)) (ac (ab 1) (ac (ab 1) aj)))) (aY (ak aX (ab 0)) (cH oZ (ab 2) (az iN (ak bx (ab 0))))) (ab 0)) aj))))
  aA)
def ey : List PV -> M PV := bg 2 0 im
def zU : ag -> M (FR × ag) :=
  (ai (cX (aY (ak aX (ab 0)) (az iN (ak bx (ab 0)))) (ai (cJ (ui (eD (ak aX (ab 0)) (az iN (ab 2))) (eD (ak bx (ab 0)) (az tD (ab 1)))))
  aA) aA)
  (ai (cJ (Eu (eD (ak aX (ab 0)) (az fq (ab 1))) (Eu (eD (ab 1) (cH iN (ak aX (ab 0)) (az iN (ab 2)))) (ui (eD (ak aX (ab 0)) (az fq (ab 2))) (ab 3)))))
  aA))
def oW : List PV -> M PV := bg 4 0 zU
def iw : ag -> M (FR × ag) :=
  (ai (aF 4 (dV [false, true, true, true, false] (ap bF (ac (ak cL (ab 0)) (ac (ab 1) (ac (ab 2) aj)))) (bz (ap oW (ac (ab 0) (ac (ab 2) (ac (ab 3) (ac (eD (ab 3) (az fq (ab 4))) aj)))))) (ab 0)))
  (ai (cJ (ap gv (ac (ab 0) (ac (ab 4) aj))))
  aA))
def ez : List PV -> M PV := bg 4 1 iw
def d0 : ag -> M (FR × ag) :=
  (ai (aF 3 (ab 2))
  (ai (eX 4 (ap bF (ac (ak cL (ab 0)) (ac (ab 1) (ac (ab 2) aj)))) (ai (eX 5 (fS (ac (ak aX (ab 4)) (ac (ak bx (ab 4)) aj))) (ai (cX (aY (ab 1) (cH iN (ab 5) (az iN (ab 3)))) (ai (aF 3 (ab 5))
  aA) aA)
  aA))
  aA))
  (ai (cJ (ab 3))
  aA)))
def cD : List PV -> M PV := bg 3 3 d0
def dw : ag -> M (FR × ag) :=
  (ai (aF 3 (ab 2))
  (ai (eX 4 (ap bF (ac (ak cL (ab 0)) (ac (ab 2) (ac (ab 1) aj)))) (ai (eX 5 (fS (ac (ak aX (ab 4)) (ac (ak bx (ab 4)) aj))) (ai (cX (aY (ab 3) (cH iN (ab 5) (az iN (ab 1)))) (ai (aF 3 (ab 5))
  aA) aA)
  aA))
  aA))
  (ai (cJ (ab 3))
  aA)))
def bY : List PV -> M PV := bg 3 3 dw
def iJ : ag -> M (FR × ag) :=
  (ai (am lZ (ab 0) (ab 1))
  (ai (am jB (ab 0) bq)
  (ai (am kW (ab 0) (de true))
  (ai (am pV (ab 0) pU)
  aA))))
def iD : List PV -> M PV := bg 2 0 iJ
def gB : ag -> M (FR × ag) :=
  (ai (fw (ab 0) (aS 1) (bA dq (bp (ab 0) (aS 1)) (aS 1)))
  (ai (cX (aY (bp (ab 0) (aS 1)) (az oZ (ap fM (ac (bp (ab 0) (aS 0)) aj)))) (ai (cJ (bA yF (bp (bp (ab 0) (aS 0)) (bA hH (bp (ab 0) (aS 1)) (aS 1))) (ab 1)))
  aA) aA)
  (ai (cJ (bA yF (bA DM (bA dq (bA dq (bA lh (bA lh (bp (ab 0) (aS 1)) (bp (ab 0) (aS 1))) (aS 41)) (bA lh (aS 13) (bp (ab 0) (aS 1)))) (bA lh (aS 5) (ap fM (ac (bp (ab 0) (aS 0)) aj)))) (aS 3)) (ab 1)))
  aA)))
def bd : List PV -> M PV := bg 2 0 gB
def ja : ag -> M (FR × ag) :=
  (ai (dI [4, 5, 6, 7] (fS (ac (ap fM (ac (ab 3) aj)) (ac (ap bd (ac (ab 0) (ac (aS 14) aj))) (ac (ap bd (ac (ab 0) (ac (aS 4) aj))) (ac (ap bd (ac (ab 0) (ac (aS 3) aj))) aj))))))
  (ai (bi (ds mi dv (ab 3) (ap eI (ac (ab 1) (ac (ab 4) (ac (ab 5) (ac (ap rY (ac (aS 16) (ac (bA dq (ab 5) (ab 6)) aj))) (ac (eD (ap bd (ac (ab 0) (ac (aS 2) aj))) (az fq (aS 1))) (ac (eD (ab 7) (az fq (aS 2))) aj)))))))))
  (ai (fw (ab 2) (ab 4) (cQ (ac (ab 5) (ac (ap rY (ac (aS 16) (ac (bA dq (ab 5) (ab 6)) aj))) (ac (eD (ab 7) (az fq (aS 1))) aj)))))
  (ai (cX (aY (ab 7) (az fq (aS 1))) (ai (bi (ap ew (ac (ak dy (ab 1)) (ac (bp (ab 3) (ab 4)) (ac (aS 103) (ac (de true) aj))))))
  (ai (cX (aY (ab 6) (az fq (aS 0))) (ai (wD (ab 2) (ab 4))
  aA) aA)
  aA)) aA)
  aA))))
def eV : List PV -> M PV := bg 4 4 ja
def jL : ag -> M (FR × ag) :=
  (ai (dI [3, 4] (fS (ac (ap bd (ac (ab 0) (ac (aS 16) aj))) (ac (bA dq (aS 1) (ap bd (ac (ab 0) (ac (aS 5) aj)))) aj))))
  (ai (bi (mR 3 cE (ab 1) (ac (ab 3) (ac (bA dq (ab 3) (ab 4)) aj))))
  (ai (eX 5 (ap cZ (ac (ab 2) aj)) (ai (dI [6, 7, 8] (bp (ab 2) (ab 5)))
  (ai (dI [6, 7] (dV [false, false, false, true, true, false, false, false, false] (fS (ac (ab 6) (ac (ab 7) aj))) cR (qi (aY (ab 0) (az oZ (ab 4))) (ab 0) (ap lC (ac (ab 4) (ac (bA hH (ab 0) (ab 5)) aj))))))
  (ai (fw (ab 2) (ab 5) (cQ (ac (ab 6) (ac (ab 7) (ac (ab 8) aj)))))
  (ai (cX (c9 (aY (ab 6) (cH fq (ab 7) (az fq (ab 3)))) (c9 (bz (ab 8)) cR)) (ai (wD (ab 2) (ab 5))
  aA) aA)
  aA)))))
  aA)))
def gE : List PV -> M PV := bg 3 6 jL
def i8 : ag -> M (FR × ag) :=
  (ai (dI [4, 5, 6] (fS (ac (ap bd (ac (ab 0) (ac (ap fM (ac (ab 3) aj)) aj))) (ac (ap bd (ac (ab 0) (ac (aS 14) aj))) (ac (ap bd (ac (ab 0) (ac (aS 3) aj))) aj)))))
  (ai (aF 7 (eD (ak da (bp (ab 3) (ab 4))) (az wP (cQ aj))))
  (ai (bi (ap dK (ac (bp (ab 3) (ab 4)) (ac (ab 1) (ac (ab 5) (ac (bA dq (ab 5) (ab 6)) aj))))))
  (ai (fw (ab 2) (ab 4) (cQ (ac (ab 5) (ac (bA dq (ab 5) (ab 6)) (ac (ab 7) aj)))))
  (ai (cX (c9 (aY (ab 6) (az fq (aS 0))) (c9 (bz (ab 7)) cR)) (ai (wD (ab 2) (ab 4))
  aA) aA)
  aA)))))
def eZ : List PV -> M PV := bg 4 4 i8
def eN : ag -> M (FR × ag) :=
  (ai (cX (aY (bp (ab 0) (aS 0)) (az iN (bp (ab 0) (aS 1)))) (ai (cJ (Eu (eD (dV [true, false, false, false] (ap fG (ac (ab 1) (ac (ab 2) aj))) (aY (bp (ab 1) (aS 0)) (cH oZ (ab 0) (az iN (bp (ab 1) (aS 1))))) (ab 0)) (az wP (cQ aj))) (eD (bp (ab 0) (aS 0)) (cH iN (ab 1) (cH fq (ab 2) (az iN (bp (ab 0) (aS 1))))))))
  aA) aA)
  (ai (cJ (Eu (eD (bp (ab 0) (aS 0)) (az fq (ab 1))) (Eu (eD (ab 1) (cH iN (bp (ab 0) (aS 0)) (az iN (ab 2)))) (eD (bp (ab 0) (aS 0)) (cH fq (ab 2) (az fq (ab 3)))))))
  aA))
def dF : List PV -> M PV := bg 4 0 eN
def jW : List PV -> M PV := kU 3 gO
def lS : List PV -> M PV := kU 4 iE
def mz : List PV -> M PV := kU 5 iD
def BQ : ag -> M (FR × ag) :=
  (ai (aF 1 (cQ (ac (dV [false, false, false, false, false, false, false, false, false, false, false, false, false, false] (kB 63 (ab 0)) cR (ap Cg (ac (ab 0) aj))) (ac (aS 0) aj))))
  (ai (dI [2, 3, 4] (fS (ac (ap jW (ac (ap lS (ac (ap mz (ac (aS 100) aj)) aj)) aj)) (ac pU (ac (cQ aj) aj)))))
  (ai (eX 5 (ap fG (ac (bA dq (aS 1) (ap bd (ac (ab 1) (ac (aS 6) aj)))) aj)) (ai (bi (ap eV (ac (ab 1) (ac (ab 2) (ac (ab 3) (ac (ab 4) aj))))))
  aA))
  (ai (cX (aY (ap bd (ac (ab 1) (ac (aS 3) aj))) (az fq (aS 1))) (ai (bi (ap gE (ac (ab 1) (ac (ab 2) (ac (ab 3) aj)))))
  aA) aA)
  (ai (cX (aY (ap bd (ac (ab 1) (ac (aS 3) aj))) (az fq (aS 1))) (ai (bi (ap eZ (ac (ab 1) (ac (ab 2) (ac (ab 3) (ac (ab 4) aj))))))
  aA) aA)
  (ai (cX (aY (ap cZ (ac (ak ca (ab 2)) aj)) (az wP (ap cZ (ac (ab 3) aj)))) (ai (cJ (de false))
  aA) aA)
  (ai (eX 6 (ab 3) (ai (cX (aY (cQ (ac (ap cN (ac (bp (ab 4) (ab 6)) aj)) (ac (ap dc (ac (bp (ab 4) (ab 6)) aj)) aj))) (az wP (kB 2 (bp (ab 3) (ab 6))))) (ai (cJ (de false))
  aA) aA)
  aA))
  (ai (dI [7, 8] (fS (ac (ap bd (ac (ab 1) (ac (aS 16) aj))) (ac (ap bd (ac (ab 1) (ac (aS 16) aj))) aj))))
  (ai (dI [9, 10] (fS (ac (bA dq (ab 8) (ap bd (ac (ab 1) (ac (bA hH (aS 17) (ab 8)) aj)))) (ac (bA hH (aS 16) (ap bd (ac (ab 1) (ac (aS 2) aj)))) aj))))
  (ai (cX (aY (ap cZ (ac (dV [false, false, false, false, false, false, false, false, false, false, false, false, false, false] (ap ey (ac (ab 2) (ac (ab 7) aj))) cR (ak bP (ab 0))) aj)) (az wP (dV [false, false, false, true, false, false, false, true, false, false, false, false, false, false] (ap cZ (ac (ab 3) aj)) (aY (bp (bp (ab 4) (ab 0)) (aS 0)) (cH oZ (ab 8) (az iN (bp (bp (ab 4) (ab 0)) (aS 1))))) (ab 0)))) (ai (cJ (de false))
  aA) aA)
  (ai (cX (aY (ap cZ (ac (dV [false, false, false, false, false, false, false, false, false, false, false, false, false, false] (ap ez (ac (ab 2) (ac (ab 8) (ac (ab 9) (ac (ab 10) aj))))) cR (ak bP (ab 0))) aj)) (az wP (dV [false, false, false, true, false, false, false, false, true, true, true, false, false, false] (ap cZ (ac (ab 3) aj)) (bz (ap dF (ac (bp (ab 4) (ab 0)) (ac (ab 9) (ac (ab 10) (ac (ab 11) aj)))))) (ab 0)))) (ai (cJ (de false))
  aA) aA)
  (ai (aF 11 (cQ aj))
  (ai (eX 6 (ab 3) (ai (bi (ds mi oE (ab 11) (kB 2 (bp (ab 3) (ab 6)))))
  aA))
  (ai (dI [12, 13] (fS (ac (dV [false, false, false, false, false, false, false, true, false, false, false, false, false, false] (ab 11) (aY (ab 8) (cH iN (ab 0) (az iN (aS 16)))) (ab 0)) (ac (dV [false, false, false, false, false, false, false, true, false, false, false, false, false, false] (ab 11) (aY (aS 0) (cH iN (ab 0) (az iN (ab 8)))) (ab 0)) aj))))
  (ai (cJ (eD (cQ (ac (ap cD (ac (ab 2) (ac (ab 7) (ac (aS 16) aj)))) (ac (ap bY (ac (ab 2) (ac (ab 7) (ac (aS 0) aj)))) aj))) (az fq (cQ (ac (ap rV (ac (bA qY (ab 12) (cQ (ac (aS 16) aj))) aj)) (ac (ap sy (ac (bA qY (ab 13) (cQ (ac (aS 0) aj))) aj)) aj))))))
  aA)))))))))))))))
noncomputable abbrev HK := PySem.Challenge.rw_np0092_01
noncomputable abbrev B6 := PySem.Challenge.pw_np0092_01
def vw : Program := view B6 [0,2,3,4,5,6,7,8,9,10,11,12,13,14,15,16,17,18,19,20,21,22,24,26,27,28,29,30,32,33,35,36,37,38,39,40,41,42,43,44,45,46,47,48,49,50,51,52,54,55,57,58,59,60,61,62]
noncomputable def sv (x : String) (n : Nat) : Value := .str (Str.ofString x) n
noncomputable def en (P : Params) (k : String) (n : Nat) (v : Value) : DictEntry := { hash := PySem.PyData.keyHash P (Str.ofString k), key := .str (Str.ofString k) n, val := v }
noncomputable def ft (i : Nat) : Stmt := B6.main.body.getD i (.Pass default)
def fm (i j : Nat) : Stmt := match ft i with | .ClassDef _ _ _ b .. => b.getD j (.Pass default) | s => s
def fo (st : Stmt) (q m : String) (n c : Nat) : Obj := match st with
 | .FunctionDef name args body _ _ _ scope .. => { cls := .type "function", data := .func { name := name, qualname := Str.ofString q, params := args, body := .stmts body, scope := scope, globals := 3, closure := [], defaults := .none, kwdefaults := .none, pyModule := sv m n, code := .ref c } }
 | _ => default
noncomputable def rf (n : Nat) : Value := match n with | 0 => .none | n + 1 => .ref (n + 1)
def co (nm q : String) (t l na fl r0 r1 r2 r3 r4 r5 t1 : Nat) : Obj := { cls := .type "code", data := .fields #[sv nm t, sv q (t + 1), sv "/claim/cut.py" (t + 2), .int l 0, .int na 0, .int 0 0, .int 0 0, .int fl 0, .ref r0, .bool true, .int 181 0, .ref r1, rf r2, rf r3, rf r4, rf r5, .int t1 0, .int l 0, sv "/claim/cut.py" (t1 + 1)] }
noncomputable def di (es : List DictEntry) (n : Nat) : Obj := { cls := .type "dict", data := .dict es.toArray n }
def cl (x : String) (a ns t1 t2 : Nat) : Obj := { cls := .type "type", data := .cls { name := Str.ofString x, bases := [.type "object"], mro := [.ref a, .type "object"], ns := ns, qualname := Str.ofString x }, slots := #[none, none, some (sv x t1), some (sv x t2), some (.builtin "object.__new__"), some (.bool true)] }
def Kw (P : Params) : Frag := [
 (3, di [en P "__name__" 165 (sv "law_np0092_01" 919), en P "__doc__" 166 .none, en P "__package__" 167 .none, en P "__loader__" 168 (.builtin "__main__.__loader__#opaque"), en P "__spec__" 169 .none, en P "__annotations__" 170 (.ref 6), en P "__builtins__" 171 (.ref 4), en P "__file__" 173 (sv "/claim/cut.py" 172), en P "__cached__" 174 .none, en P "_wall" 193 (.ref 21), en P "OverlayNode" 238 (.ref 38), en P "OverlayTree" 267 (.ref 59), en P "hand_down" 275 (.ref 70), en P "hand_down_to" 284 (.ref 77), en P "greatest_end" 293 (.ref 84), en P "renew_limits" 301 (.ref 91), en P "hang" 311 (.ref 98), en P "turn_left" 320 (.ref 105), en P "turn_right" 329 (.ref 112), en P "is_red" 336 (.ref 119), en P "colour_inserted" 348 (.ref 126), en P "turned_inward" 358 (.ref 133), en P "put_node" 369 (.ref 140), en P "first_below" 376 (.ref 147), en P "take_place" 386 (.ref 154), en P "drop_node" 399 (.ref 161), en P "colour_dropped" 409 (.ref 168), en P "sibling_of" 417 (.ref 175), en P "turn_towards" 426 (.ref 182), en P "lightened" 439 (.ref 189), en P "nodes_between" 451 (.ref 196), en P "close_gap" 464 (.ref 203), en P "eq" 474 (.ref 210), en P "plist_find" 483 (.ref 217), en P "plist_get" 492 (.ref 224), en P "plist_with" 502 (.ref 231), en P "holds_pair" 512 (.ref 238), en P "PropRules" 559 (.ref 262), en P "value_in" 570 (.ref 273), en P "Overlay" 606 (.ref 290), en P "OverlayHome" 675 (.ref 339), en P "overlay_begin" 682 (.ref 350), en P "overlay_end" 689 (.ref 357), en P "take_out" 696 (.ref 364), en P "lay" 706 (.ref 371), en P "made_overlay" 719 (.ref 378), en P "overlay_get" 728 (.ref 385), en P "is_fleeting" 736 (.ref 392), en P "moved_overlay" 746 (.ref 399), en P "overlay_put" 757 (.ref 406), en P "of_nodes" 763 (.ref 411), en P "overlays_at" 769 (.ref 416), en P "is_in" 779 (.ref 423), en P "overlays_in" 785 (.ref 428), en P "next_overlay_change" 797 (.ref 435), en P "previous_overlay_change" 809 (.ref 442), en P "text_went" 819 (.ref 449), en P "NAMES" 827 (.ref 450), en P "PlainLisp" 918 (.ref 516), en P "_law_draw" 928 (.ref 527), en P "_law_fresh" 942 (.ref 534), en P "_law_gone" 948 (.ref 539), en P "_law_moved" 962 (.ref 546), en P "_law_touches" 968 (.ref 551), en P "law" 974 (.ref 556)] 65),
 (20, co "_wall" "_wall" 187 1 1 3 15 16 0 17 18 19 191),
 (21, fo (ft 0) "_wall" "__main__" 164 20),
 (34, co "__init__" "OverlayNode.__init__" 208 7 6 3 29 30 0 31 32 33 217),
 (35, fo (fm 2 0) "OverlayNode.__init__" "emacs.overlaytree" 194 34),
 (37, di [en P "__module__" 203 (sv "emacs.overlaytree" 194), en P "__firstlineno__" 207 (.int 5 206), en P "__init__" 219 (.ref 35), en P "__static_attributes__" 231 (.ref 36), en P "__dict__" 233 (.ref 39), en P "__weakref__" 235 (.ref 40), en P "__doc__" 236 .none] 4),
 (38, cl "OverlayNode" 38 37 196 204),
 (55, co "__init__" "OverlayTree.__init__" 251 21 1 3 50 51 0 52 53 54 255),
 (56, fo (fm 3 0) "OverlayTree.__init__" "emacs.overlaytree" 194 55),
 (58, di [en P "__module__" 246 (sv "emacs.overlaytree" 194), en P "__firstlineno__" 250 (.int 19 249), en P "__init__" 257 (.ref 56), en P "__static_attributes__" 260 (.ref 57), en P "__dict__" 262 (.ref 60), en P "__weakref__" 264 (.ref 61), en P "__doc__" 265 .none] 4),
 (59, cl "OverlayTree" 59 58 239 247),
 (69, co "hand_down" "hand_down" 268 24 1 3 64 65 0 66 67 68 273),
 (70, fo (ft 4) "hand_down" "emacs.overlaytree" 194 69),
 (76, co "hand_down_to" "hand_down_to" 276 34 1 3 71 72 0 73 74 75 282),
 (77, fo (ft 5) "hand_down_to" "emacs.overlaytree" 194 76),
 (83, co "greatest_end" "greatest_end" 285 41 1 3 78 79 0 80 81 82 291),
 (84, fo (ft 6) "greatest_end" "emacs.overlaytree" 194 83),
 (90, co "renew_limits" "renew_limits" 294 47 1 3 85 86 0 87 88 89 299),
 (91, fo (ft 7) "renew_limits" "emacs.overlaytree" 194 90),
 (97, co "hang" "hang" 302 54 4 3 92 93 0 94 95 96 309),
 (98, fo (ft 8) "hang" "emacs.overlaytree" 194 97),
 (104, co "turn_left" "turn_left" 312 63 2 3 99 100 0 101 102 103 318),
 (105, fo (ft 9) "turn_left" "emacs.overlaytree" 194 104),
 (111, co "turn_right" "turn_right" 321 75 2 3 106 107 0 108 109 110 327),
 (112, fo (ft 10) "turn_right" "emacs.overlaytree" 194 111),
 (118, co "is_red" "is_red" 330 87 1 3 113 114 0 115 116 117 334),
 (119, fo (ft 11) "is_red" "emacs.overlaytree" 194 118),
 (125, co "colour_inserted" "colour_inserted" 337 89 2 3 120 121 0 122 123 124 346),
 (126, fo (ft 12) "colour_inserted" "emacs.overlaytree" 194 125),
 (132, co "turned_inward" "turned_inward" 349 109 3 3 127 128 0 129 130 131 356),
 (133, fo (ft 13) "turned_inward" "emacs.overlaytree" 194 132),
 (139, co "put_node" "put_node" 359 118 2 3 134 135 0 136 137 138 367),
 (140, fo (ft 14) "put_node" "emacs.overlaytree" 194 139),
 (146, co "first_below" "first_below" 370 145 1 3 141 142 0 143 144 145 374),
 (147, fo (ft 15) "first_below" "emacs.overlaytree" 194 146),
 (153, co "take_place" "take_place" 377 151 3 3 148 149 0 150 151 152 384),
 (154, fo (ft 16) "take_place" "emacs.overlaytree" 194 153),
 (160, co "drop_node" "drop_node" 387 160 2 3 155 156 0 157 158 159 397),
 (161, fo (ft 17) "drop_node" "emacs.overlaytree" 194 160),
 (167, co "colour_dropped" "colour_dropped" 400 182 3 3 162 163 0 164 165 166 407),
 (168, fo (ft 18) "colour_dropped" "emacs.overlaytree" 194 167),
 (174, co "sibling_of" "sibling_of" 410 191 2 3 169 170 0 171 172 173 415),
 (175, fo (ft 19) "sibling_of" "emacs.overlaytree" 194 174),
 (181, co "turn_towards" "turn_towards" 418 193 3 3 176 177 0 178 179 180 424),
 (182, fo (ft 20) "turn_towards" "emacs.overlaytree" 194 181),
 (188, co "lightened" "lightened" 427 198 4 3 183 184 0 185 186 187 437),
 (189, fo (ft 21) "lightened" "emacs.overlaytree" 194 188),
 (195, co "nodes_between" "nodes_between" 440 224 3 3 190 191 0 192 193 194 449),
 (196, fo (ft 22) "nodes_between" "emacs.overlaytree" 194 195),
 (202, co "close_gap" "close_gap" 454 243 3 3 197 198 0 199 200 201 462),
 (203, fo (ft 24) "close_gap" "emacs.overlaygaps" 452 202),
 (209, co "eq" "eq" 467 263 2 3 204 205 0 206 207 208 472),
 (210, fo (ft 26) "eq" "emacs.plists" 465 209),
 (216, co "plist_find" "plist_find" 475 267 2 3 211 212 0 213 214 215 481),
 (217, fo (ft 27) "plist_find" "emacs.plists" 465 216),
 (223, co "plist_get" "plist_get" 484 272 2 3 218 219 0 220 221 222 490),
 (224, fo (ft 28) "plist_get" "emacs.plists" 465 223),
 (230, co "plist_with" "plist_with" 493 275 3 3 225 226 0 227 228 229 500),
 (231, fo (ft 29) "plist_with" "emacs.plists" 465 230),
 (237, co "holds_pair" "holds_pair" 503 280 3 3 232 233 0 234 235 236 510),
 (238, fo (ft 30) "holds_pair" "emacs.plists" 465 237),
 (251, co "__init__" "PropRules.__init__" 527 286 2 3 246 247 0 248 249 250 532),
 (252, fo (fm 32 0) "PropRules.__init__" "emacs.proprules" 513 251),
 (258, co "is_nil" "PropRules.is_nil" 535 297 2 3 253 254 0 255 256 257 540),
 (259, fo (fm 32 1) "PropRules.is_nil" "emacs.proprules" 513 258),
 (261, di [en P "__module__" 522 (sv "emacs.proprules" 513), en P "__firstlineno__" 526 (.int 284 525), en P "__init__" 534 (.ref 252), en P "is_nil" 542 (.ref 259), en P "__static_attributes__" 552 (.ref 260), en P "__dict__" 554 (.ref 263), en P "__weakref__" 556 (.ref 264), en P "__doc__" 557 .none] 4),
 (262, cl "PropRules" 262 261 515 523),
 (272, co "value_in" "value_in" 560 299 3 3 267 268 0 269 270 271 568),
 (273, fo (ft 33) "value_in" "emacs.proprules" 513 272),
 (286, co "__init__" "Overlay.__init__" 585 309 4 3 281 282 0 283 284 285 592),
 (287, fo (fm 35 0) "Overlay.__init__" "emacs.overlays" 571 286),
 (289, di [en P "__module__" 580 (sv "emacs.overlays" 571), en P "__firstlineno__" 584 (.int 307 583), en P "__init__" 594 (.ref 287), en P "__static_attributes__" 599 (.ref 288), en P "__dict__" 601 (.ref 291), en P "__weakref__" 603 (.ref 292), en P "__doc__" 604 .none] 4),
 (290, cl "Overlay" 290 289 573 581),
 (307, co "__init__" "OverlayHome.__init__" 619 316 2 3 302 303 0 304 305 306 624),
 (308, fo (fm 36 0) "OverlayHome.__init__" "emacs.overlays" 571 307),
 (314, co "inserted" "OverlayHome.inserted" 627 321 4 3 309 310 0 311 312 313 634),
 (315, fo (fm 36 1) "OverlayHome.inserted" "emacs.overlays" 571 314),
 (321, co "deleted" "OverlayHome.deleted" 637 324 3 3 316 317 0 318 319 320 643),
 (322, fo (fm 36 2) "OverlayHome.deleted" "emacs.overlays" 571 321),
 (328, co "text_came" "OverlayHome.text_came" 646 327 4 3 323 324 0 325 326 327 653),
 (329, fo (fm 36 3) "OverlayHome.text_came" "emacs.overlays" 571 328),
 (335, co "text_gone" "OverlayHome.text_gone" 656 330 3 3 330 331 0 332 333 334 662),
 (336, fo (fm 36 4) "OverlayHome.text_gone" "emacs.overlays" 571 335),
 (338, di [en P "__module__" 614 (sv "emacs.overlays" 571), en P "__firstlineno__" 618 (.int 314 617), en P "__init__" 626 (.ref 308), en P "inserted" 636 (.ref 315), en P "deleted" 645 (.ref 322), en P "text_came" 655 (.ref 329), en P "text_gone" 664 (.ref 336), en P "__static_attributes__" 668 (.ref 337), en P "__dict__" 670 (.ref 340), en P "__weakref__" 672 (.ref 341), en P "__doc__" 673 .none] 4),
 (339, cl "OverlayHome" 339 338 607 615),
 (349, co "overlay_begin" "overlay_begin" 676 332 1 3 344 345 0 346 347 348 680),
 (350, fo (ft 37) "overlay_begin" "emacs.overlays" 571 349),
 (356, co "overlay_end" "overlay_end" 683 335 1 3 351 352 0 353 354 355 687),
 (357, fo (ft 38) "overlay_end" "emacs.overlays" 571 356),
 (363, co "take_out" "take_out" 690 338 1 3 358 359 0 360 361 362 694),
 (364, fo (ft 39) "take_out" "emacs.overlays" 571 363),
 (370, co "lay" "lay" 697 343 4 3 365 366 0 367 368 369 704),
 (371, fo (ft 40) "lay" "emacs.overlays" 571 370),
 (377, co "made_overlay" "made_overlay" 707 350 6 3 372 373 0 374 375 376 717),
 (378, fo (ft 41) "made_overlay" "emacs.overlays" 571 377),
 (384, co "overlay_get" "overlay_get" 720 354 3 3 379 380 0 381 382 383 726),
 (385, fo (ft 42) "overlay_get" "emacs.overlays" 571 384),
 (391, co "is_fleeting" "is_fleeting" 729 356 2 3 386 387 0 388 389 390 734),
 (392, fo (ft 43) "is_fleeting" "emacs.overlays" 571 391),
 (398, co "moved_overlay" "moved_overlay" 737 358 4 3 393 394 0 395 396 397 744),
 (399, fo (ft 44) "moved_overlay" "emacs.overlays" 571 398),
 (405, co "overlay_put" "overlay_put" 747 362 4 3 400 401 0 402 403 404 755),
 (406, fo (ft 45) "overlay_put" "emacs.overlays" 571 405),
 (410, co "of_nodes" "of_nodes" 758 370 2 3 407 408 0 0 0 409 761),
 (411, fo (ft 46) "of_nodes" "emacs.overlays" 571 410),
 (415, co "overlays_at" "overlays_at" 764 372 2 3 412 413 0 0 0 414 767),
 (416, fo (ft 47) "overlays_at" "emacs.overlays" 571 415),
 (422, co "is_in" "is_in" 770 374 4 3 417 418 0 419 420 421 777),
 (423, fo (ft 48) "is_in" "emacs.overlays" 571 422),
 (427, co "overlays_in" "overlays_in" 780 378 4 3 424 425 0 0 0 426 783),
 (428, fo (ft 49) "overlays_in" "emacs.overlays" 571 427),
 (434, co "next_overlay_change" "next_overlay_change" 786 381 3 3 429 430 0 431 432 433 795),
 (435, fo (ft 50) "next_overlay_change" "emacs.overlays" 571 434),
 (441, co "previous_overlay_change" "previous_overlay_change" 798 388 3 3 436 437 0 438 439 440 807),
 (442, fo (ft 51) "previous_overlay_change" "emacs.overlays" 571 441),
 (448, co "text_went" "text_went" 810 395 3 3 443 444 0 445 446 447 817),
 (449, fo (ft 52) "text_went" "emacs.overlays" 571 448),
 (450, { cls := .type "tuple", data := .seq #[(sv "category" 822), (sv "front-sticky" 823), (sv "rear-nonsticky" 824), (sv "evaporate" 825), (sv "priority" 826)] }),
 (463, co "__init__" "PlainLisp.__init__" 840 404 2 3 458 459 0 460 461 462 845),
 (464, fo (fm 55 0) "PlainLisp.__init__" "emacs.plainlisp" 820 463),
 (470, co "number" "PlainLisp.number" 848 410 2 3 465 466 0 467 468 469 853),
 (471, fo (fm 55 1) "PlainLisp.number" "emacs.plainlisp" 820 470),
 (477, co "symbol" "PlainLisp.symbol" 856 413 2 3 472 473 0 474 475 476 861),
 (478, fo (fm 55 2) "PlainLisp.symbol" "emacs.plainlisp" 820 477),
 (484, co "number_of" "PlainLisp.number_of" 864 416 2 3 479 480 0 481 482 483 869),
 (485, fo (fm 55 3) "PlainLisp.number_of" "emacs.plainlisp" 820 484),
 (491, co "list_of" "PlainLisp.list_of" 872 419 2 3 486 487 0 488 489 490 877),
 (492, fo (fm 55 4) "PlainLisp.list_of" "emacs.plainlisp" 820 491),
 (498, co "items" "PlainLisp.items" 880 422 2 3 493 494 0 495 496 497 885),
 (499, fo (fm 55 5) "PlainLisp.items" "emacs.plainlisp" 820 498),
 (505, co "pair" "PlainLisp.pair" 888 425 2 3 500 501 0 502 503 504 893),
 (506, fo (fm 55 6) "PlainLisp.pair" "emacs.plainlisp" 820 505),
 (512, co "symbol_property" "PlainLisp.symbol_property" 896 428 3 3 507 508 0 509 510 511 904),
 (513, fo (fm 55 7) "PlainLisp.symbol_property" "emacs.plainlisp" 820 512),
 (515, di [en P "__module__" 835 (sv "emacs.plainlisp" 820), en P "__firstlineno__" 839 (.int 402 838), en P "__init__" 847 (.ref 464), en P "number" 855 (.ref 471), en P "symbol" 863 (.ref 478), en P "number_of" 871 (.ref 485), en P "list_of" 879 (.ref 492), en P "items" 887 (.ref 499), en P "pair" 895 (.ref 506), en P "symbol_property" 906 (.ref 513), en P "__static_attributes__" 911 (.ref 514), en P "__dict__" 913 (.ref 517), en P "__weakref__" 915 (.ref 518), en P "__doc__" 916 .none] 4),
 (516, cl "PlainLisp" 516 515 828 836),
 (526, co "_law_draw" "_law_draw" 921 434 2 3 521 522 0 523 524 525 926),
 (527, fo (ft 57) "_law_draw" "law_np0092_01" 919 526),
 (533, co "_law_fresh" "_law_fresh" 929 439 4 3 528 529 0 530 531 532 940),
 (534, fo (ft 58) "_law_fresh" "law_np0092_01" 919 533),
 (538, co "_law_gone" "_law_gone" 943 447 3 3 535 536 0 0 0 537 946),
 (539, fo (ft 59) "_law_gone" "law_np0092_01" 919 538),
 (545, co "_law_moved" "_law_moved" 949 456 4 3 540 541 0 542 543 544 960),
 (546, fo (ft 60) "_law_moved" "law_np0092_01" 919 545),
 (550, co "_law_touches" "_law_touches" 963 463 4 3 547 548 0 0 0 549 966),
 (551, fo (ft 61) "_law_touches" "law_np0092_01" 919 550),
 (555, co "law" "law" 969 467 1 3 552 553 0 0 0 554 972),
 (556, fo (ft 62) "law" "law_np0092_01" 919 555)]
noncomputable def ks : List Addr := [3,20,21,34,35,37,38,55,56,58,59,69,70,76,77,83,84,90,91,97,98,104,105,111,112,118,119,125,126,132,133,139,140,146,147,153,154,160,161,167,168,174,175,181,182,188,189,195,196,202,203,209,210,216,217,223,224,230,231,237,238,251,252,258,259,261,262,272,273,286,287,289,290,307,308,314,315,321,322,328,329,335,336,338,339,349,350,356,357,363,364,370,371,377,378,384,385,391,392,398,399,405,406,410,411,415,416,422,423,427,428,434,435,441,442,448,449,450,463,464,470,471,477,478,484,485,491,492,498,499,505,506,512,513,515,516,526,527,533,534,538,539,545,546,550,551,555,556]
theorem Gu (P : Params) : ks = (Kw P).map (·.1) := by kernel_rfl
noncomputable def Bw (st : (Code -> Sem Fin) -> Program -> World -> SharedT -> Thread -> Option (SharedT × Thread)) (sk : Nat -> Option Value -> Thread -> Bool) (dn : (String -> Option Builtin) -> Code -> Sem Fin) (tb : String -> Option Builtin) (p : Program) (w : World) (n₀ : Nat) (ann : Option Value) : Nat -> SharedT -> Thread -> Option SharedT
 | 0, _, _ => none
 | n + 1, s, t => match through t with
  | true => some s
  | false => match sk n₀ ann t with
   | false => none
   | true => match st (dn tb) p w s t with
    | some (s', t') => Bw st sk dn tb p w n₀ ann n s' t'
    | none => none
theorem zw {tb : String -> Option Builtin} {p : Program} {w : World} {n₀ : Nat} {ann : Option Value} : ∀ {n : Nat} {s s' : SharedT} {t : Thread}, Bw stepT stepOk denote tb p w n₀ ann n s t = some s' -> topRun tb p w n₀ ann n s.abs t = some s'.abs
 | 0, _, _, _, h => by cases h
 | n + 1, s, s', t, h => by
  unfold Bw at h
  unfold topRun
  cases he : through t with
  | true => rw [he] at h; cases h; rfl
  | false =>
   rw [he] at h
   cases hk : stepOk n₀ ann t with
   | false => rw [hk] at h; cases h
   | true =>
    rw [hk] at h
    cases hs : stepT (denote tb) p w s t with
    | none => rw [hs] at h; cases h
    | some r => obtain ⟨s₂, t₂⟩ := r; rw [hs] at h; rw [stepT_spec hs]; exact zw h
noncomputable def T0 (P : Params) : BT := (((((((((((BT.nil.ins 0 (boot_o_0 P)).ins 1 (boot_o_1 P)).ins 2 (boot_o_2 P)).ins 3 (boot_o_3 P)).ins 4 (boot_o_4 P)).ins 5 (boot_o_5 P)).ins 6 (boot_o_6 P)).ins 7 (boot_o_7 P)).ins 8 (boot_o_8 P)).ins 9 (boot_o_9 P)).ins 10 (boot_o_10 P))
noncomputable def Hc : Life := {}
def S0 (w : World) (os : OsState) : SharedT := ⟨T0 w.params, 11, Hc, #[], boot_drawn, boot_toks, os⟩
theorem Gk (w : World) (os : OsState) : (S0 w os).abs = ⟨boot_heap w.params, #[], boot_drawn, boot_toks, os⟩ := rfl
noncomputable abbrev HV := PySem.W.Fast.tw14364793385576792824
abbrev HB := Bw PySem.W.Fast.tw10156331382660048174 PySem.W.Fast.tw6613529449190102663 PySem.W.Fast.tw11892475500146522536 HV
theorem Bh : ∀ w : World, (boot_heap w.params).nsMap mainGlobals "__annotations__" = some (.ref 6) := λ w => by kernel_rfl
theorem Dt : ∀ w : World, ((boot_heap w.params).isNs mainGlobals && (#[] : Array GenState).size == 0) = true := λ w => by kernel_rfl
theorem AD : ∀ w : World, (boot_heap w.params).objs.size = 11 := λ w => by kernel_rfl
theorem yV : opening B6 = plainProg B6.main.scope.names := by kernel_rfl
theorem Cs : ∀ s, fenceModules? B6 s = some s := λ s => by kernel_rfl
abbrev Hk : Hook := kHook Kw ks Gu
abbrev XtQ : Shared -> Bool := λ s => xlAt vw [] s && recOk (RowW.records HK.row.toRowW) s
theorem Gq (w : World) (os : OsState) : (HB B6 w 11 (some (.ref 6)) 6842 (S0 w os) (topStub B6)).map (λ r => ((staticsOk (importedModules B6.main.body) (boot_heap w.params) r.abs.heap && namesBound B6 r.abs.heap && gensDone r.abs && laidKept (boot_heap w.params) r.abs.heap),
  PySem.W.Fast.tw4187177175401517315 vw [] (importedModules B6.main.body) XtQ true r.abs, Hk.obs r.abs)) = some (true, openGood vw [], Hk.val w) := by kernel_rfl
theorem D2 {p q : Program} {loose : List Str} {Xt : Shared -> Bool} {α : Type} {Yf : Shared -> α} {Ya : World -> α} {N m₀ : Nat} {ann : Option Value}
  {st : (Code -> Sem Fin) -> Program -> World -> SharedT -> Thread -> Option (SharedT × Thread)} {sk : Nat -> Option Value -> Thread -> Bool} {dn : (String -> Option Builtin) -> Code -> Sem Fin} {tb : String -> Option Builtin}
  {sn : Program -> List Str -> List Str -> (Shared -> Bool) -> Bool -> Shared -> _} (e1 : stepT = st) (e2 : stepOk = sk) (e3 : denote = dn) (e4 : treeTable = tb) (e5 : openSeen = sn)
  (op : opening p = plainProg p.main.scope.names) (hN : Nat.ble 600 N = true) (fe : ∀ s, fenceModules? p s = some s)
  (b1 : ∀ w : World, ((boot_heap w.params).isNs mainGlobals && (#[] : Array GenState).size == 0) = true) (b2 : ∀ w : World, (boot_heap w.params).objs.size = m₀) (b3 : ∀ w : World, (boot_heap w.params).nsMap mainGlobals "__annotations__" = ann)
  (lk : ∀ w os, (Bw st sk dn tb p w m₀ ann N (S0 w os) (topStub p)).map (λ r => ((staticsOk (importedModules p.main.body) (boot_heap w.params) r.abs.heap && namesBound p r.abs.heap && gensDone r.abs && laidKept (boot_heap w.params) r.abs.heap),
   sn q loose (importedModules p.main.body) Xt true r.abs, Yf r.abs)) = some (true, openGood q loose, Ya w)) : LeftO p q loose Xt Yf Ya N := λ w => by
 subst e1 e2 e3 e4 e5
 obtain ⟨⟨h, gs, d, k, os⟩, e, e'⟩ := Option.map_eq_some_iff.mp (boot_open (N := N) op hN fe w)
 obtain ⟨rfl, rfl, rfl, rfl⟩ : h = boot_heap w.params /\ gs = #[] /\ d = boot_drawn /\ k = boot_toks := by simpa using e'
 obtain ⟨r, hr, hl⟩ := Option.map_eq_some_iff.mp (lk w os)
 obtain ⟨l1, l2, l3⟩ := (by simpa only [Prod.mk.injEq] using hl : _ /\ _ /\ _)
 have rr := zw hr
 rw [Gk] at rr
 have t : topFrom treeTable p w N ⟨boot_heap w.params, #[], boot_drawn, boot_toks, os⟩ = some r.abs := by
  unfold topFrom
  dsimp only
  rw [b1, b2, b3, rr]
  show (match staticsOk (importedModules p.main.body) (boot_heap w.params) r.abs.heap && namesBound p r.abs.heap && gensDone r.abs && laidKept (boot_heap w.params) r.abs.heap with | true => _ | false => _) = _
  rw [l1]
 unfold openEnds
 rw [e]
 show (topFrom treeTable p w N _).map _ = _
 rw [t]
 exact congrArg some (Prod.ext l2 l3)
theorem left0 : LeftO B6 vw [] XtQ Hk.obs Hk.val 6842 :=
 D2 PySem.W.Fast.te10156331382660048174 PySem.W.Fast.te6613529449190102663 PySem.W.Fast.te11892475500146522536 PySem.W.Fast.te14364793385576792824 PySem.W.Fast.te4187177175401517315 yV rfl Cs Dt AD Bh Gq
theorem ws : HK.wellSaid = true := by rw [PySem.W.Fast.te9446332074065402090]; decide +kernel
theorem gl1 : namesOk vw (looseW vw []) (namesW vw []) = true := by rw [PySem.W.Fast.te17448422675489707002, PySem.W.Fast.te821141287760084731]; kernel_rfl
theorem gl2 : importsNone vw = true := by rw [PySem.W.Fast.te2458874890965802552]; kernel_rfl
section
noncomputable def oJ : Nat -> Addr
 | 0 => 38
 | 1 => 59
 | 2 => 290
 | 3 => 339
 | 4 => 262
 | 5 => 516
 | _ => 0
structure aV (S : eP) : Prop where
 K : S.K = Kw S.w.params
 flds : S.flds = sg
 cadr : S.cadr = oJ
variable {S : eP}
theorem Ei {x : Str} : dp S x [] := λ c k h => by cases h
theorem oa {x : Str} {c k : Nat} {t} (h : rq S x c k) (r : dp S x t) : dp S x ((c, k) :: t) := λ c' k' e => by
 rw [List.lookup_cons] at e
 cases q : c' == c with
 | true => rw [q] at e; cases e; rw [beq_iff_eq.mp q]; exact h
 | false => rw [q] at e; exact r c' k' e
section
variable (hS : aV S)
include hS
theorem GI {x : Str} {v} (h : nsIn (Kw S.w.params) mainGlobals x = v) : nsIn S.K mainGlobals x = v := by rw [hS.K]; exact h
theorem Gj {a : Addr} {v} (h : (Kw S.w.params).lookup a = v) : S.K.lookup a = v := by rw [hS.K]; exact h
theorem FY {v : Value} (h : keepIn (Kw S.w.params) v = true) : keepIn S.K v = true := by rw [hS.K]; exact h
theorem Gb {v : Value} {q : Str} (h : codeIn (Kw S.w.params) v q = true) : codeIn S.K v q = true := by rw [hS.K]; exact h
theorem B0 {c : Nat} {x : Str} {v} (h : findIn (Kw S.w.params) (.ref (oJ c)) x = v) : findIn S.K (.ref (S.cadr c)) x = v := by rw [hS.K, hS.cadr]; exact h
theorem ux {c : Nat} (h1 : hasDictIn (Kw S.w.params) (oJ c) = true) (h2 : plainGet (Kw S.w.params) (oJ c) "" = true) (h3 : findIn (Kw S.w.params) (.ref (oJ c)) "__setattr__" = some (some (.builtin "object.__setattr__"))) (h4 : plainOver (Kw S.w.params) (oJ c) = true) : lU S c :=
 ⟨by rw [hS.K, hS.cadr]; exact h1, by rw [hS.K, hS.cadr]; exact h2, B0 hS h3, by rw [hS.K, hS.cadr]; exact h4⟩
theorem Ad {c k : Nat} {x : Str} (h : lU S c) (h1 : (sg c)[k]? = some x) (h2 : findIn (Kw S.w.params) (.ref (oJ c)) x = some none) : rq S x c k := ⟨h, by rw [hS.flds]; exact h1, B0 hS h2⟩
theorem nR {c k : Nat} {x : Str} (h : lU S c) (h1 : (sg c)[k]? = some x) (h2 : findIn (Kw S.w.params) (.ref (oJ c)) x = some none) : dp S x [(c, k)] := oa (Ad hS h h1 h2) Ei
theorem dS {d : Nat} {x : Str} {F : List PV -> M PV} {fv : Value} (h1 : nsIn (Kw S.w.params) mainGlobals x = some (some fv)) (h2 : keepIn (Kw S.w.params) fv = true) (h3 : cU S d fv F) : hK S d x F := ⟨fv, GI hS h1, FY hS h2, h3⟩
theorem yp {x : Str} {F : List PV -> M PV} {fv : Value} (h1 : nsIn (Kw S.w.params) mainGlobals x = some none) (h2 : bootBuiltins x = some fv) (h3 : x ≠ "__name__") (h4 : (∃ id, fv = .builtin id) \/ ∃ T, fv = .type T) (h5 : Dd S 0 fv F) : De S 0 x F := ⟨fv, GI hS h1, h2, h3, h4, h5⟩
theorem dz {d np k : Nat} {g : Gn} {ns : List Str} {body : List Stmt} {scope : Scope} {f : Addr} {b : ag -> M (FR × ag)} {nm qual params doc pm an cdv ct oc od osl}
  (h1 : (Kw S.w.params).lookup f = some ⟨oc, od, .func (fnOf nm qual params body scope .none .none doc pm an cdv ct), osl⟩) (h2 : codeIn (Kw S.w.params) cdv qual = true)
  (h3 : ∀ vals, vals.length = np -> bindArgs (fnOf nm qual params body scope .none .none doc pm an cdv ct) ⟨vals, []⟩ = pure ((ns.take np).zip vals)) (hok : oF scope g ns = true) (hb : SB S d g ns body b) : cU S (d + 1) (.ref f) (bg np k b) :=
 Ek ⟨nm, qual, params, doc, pm, an, cdv, ct, oc, od, osl, Gj hS h1, Gb hS h2, h3⟩ hok hb
end
theorem HO {P : List Value -> Prop} (h : P []) : ∀ l, l.length = 0 -> P l := λ l e => List.eq_nil_of_length_eq_zero e ▸ h
theorem BR {P : List Value -> Prop} (h : ∀ a, P [a]) : ∀ l, l.length = 1 -> P l := λ l e => by
 cases l with
 | nil => cases e
 | cons x l => exact HO (P := λ l => P (x :: l)) (h x) l (Nat.succ.inj e)
theorem vS {P : List Value -> Prop} (h : ∀ a b, P [a, b]) : ∀ l, l.length = 2 -> P l := λ l e => by
 cases l with
 | nil => cases e
 | cons x l => exact BR (P := λ l => P (x :: l)) (h x) l (Nat.succ.inj e)
theorem yC {P : List Value -> Prop} (h : ∀ a b c, P [a, b, c]) : ∀ l, l.length = 3 -> P l := λ l e => by
 cases l with
 | nil => cases e
 | cons x l => exact vS (P := λ l => P (x :: l)) (h x) l (Nat.succ.inj e)
theorem Bf {P : List Value -> Prop} (h : ∀ a b c d, P [a, b, c, d]) : ∀ l, l.length = 4 -> P l := λ l e => by
 cases l with
 | nil => cases e
 | cons x l => exact yC (P := λ l => P (x :: l)) (h x) l (Nat.succ.inj e)
theorem HR {P : List Value -> Prop} (h : ∀ a b c d e, P [a, b, c, d, e]) : ∀ l, l.length = 5 -> P l := λ l e => by
 cases l with
 | nil => cases e
 | cons x l => exact Bf (P := λ l => P (x :: l)) (h x) l (Nat.succ.inj e)
theorem HG {P : List Value -> Prop} (h : ∀ a b c d e f, P [a, b, c, d, e, f]) : ∀ l, l.length = 6 -> P l := λ l e => by
 cases l with
 | nil => cases e
 | cons x l => exact HR (P := λ l => P (x :: l)) (h x) l (Nat.succ.inj e)
theorem rL (hS : aV S) : lU S 0 := ux hS rfl rfl rfl rfl
theorem G4 (hS : aV S) : lU S 1 := ux hS rfl rfl rfl rfl
theorem Ds (hS : aV S) : lU S 2 := ux hS rfl rfl rfl rfl
theorem DC (hS : aV S) : lU S 3 := ux hS rfl rfl rfl rfl
theorem tA (hS : aV S) : lU S 4 := ux hS rfl rfl rfl rfl
theorem Dc (hS : aV S) : lU S 5 := ux hS rfl rfl rfl rfl
theorem cS (hS : aV S) : dp S "begin" aX := (nR hS (rL hS) rfl rfl)
theorem qk (hS : aV S) : dp S "category" fE := (nR hS (tA hS) rfl rfl)
theorem mc (hS : aV S) : dp S "count" dT := (nR hS (G4 hS) rfl rfl)
theorem xM (hS : aV S) : dp S "defaults" l9 := (nR hS (tA hS) rfl rfl)
theorem fu (hS : aV S) : dp S "end" bx := (nR hS (rL hS) rfl rfl)
theorem kG (hS : aV S) : dp S "evaporate" dm := (nR hS (tA hS) rfl rfl)
theorem w9 (hS : aV S) : dp S "first" lZ := (nR hS (Dc hS) rfl rfl)
theorem pP (hS : aV S) : dp S "front_advance" hW := (nR hS (rL hS) rfl rfl)
theorem qU (hS : aV S) : dp S "front_sticky" iO := (nR hS (tA hS) rfl rfl)
theorem kL (hS : aV S) : dp S "home" cK := (nR hS (Ds hS) rfl rfl)
theorem b9 (hS : aV S) : dp S "is_red" aJ := (nR hS (rL hS) rfl rfl)
theorem ci (hS : aV S) : dp S "left" aM := (nR hS (rL hS) rfl rfl)
theorem dG (hS : aV S) : dp S "limit" a9 := (nR hS (rL hS) rfl rfl)
theorem DZ (hS : aV S) : dp S "lisp" wj := (nR hS (tA hS) rfl rfl)
theorem sO (hS : aV S) : dp S "nil" jB := (oa (Ad hS (tA hS) rfl rfl) (nR hS (Dc hS) rfl rfl))
theorem gM (hS : aV S) : dp S "node" bW := (nR hS (Ds hS) rfl rfl)
theorem ig (hS : aV S) : dp S "number" bP := (oa (Ad hS (rL hS) rfl rfl) (nR hS (Ds hS) rfl rfl))
theorem dR (hS : aV S) : dp S "offset" aL := (nR hS (rL hS) rfl rfl)
theorem iB (hS : aV S) : dp S "overlays" ca := (nR hS (DC hS) rfl rfl)
theorem cp (hS : aV S) : dp S "parent" aR := (nR hS (rL hS) rfl rfl)
theorem km (hS : aV S) : dp S "plist" da := (nR hS (Ds hS) rfl rfl)
theorem Bb (hS : aV S) : dp S "plists" pV := (nR hS (Dc hS) rfl rfl)
theorem yi (hS : aV S) : dp S "priority" lQ := (nR hS (tA hS) rfl rfl)
theorem qI (hS : aV S) : dp S "rear_advance" iQ := (nR hS (rL hS) rfl rfl)
theorem oN (hS : aV S) : dp S "rear_nonsticky" gP := (nR hS (tA hS) rfl rfl)
theorem bS (hS : aV S) : dp S "right" aH := (nR hS (rL hS) rfl rfl)
theorem ir (hS : aV S) : dp S "root" bL := (nR hS (G4 hS) rfl rfl)
theorem oq (hS : aV S) : dp S "rules" dy := (nR hS (DC hS) rfl rfl)
theorem i7 (hS : aV S) : dp S "tree" cL := (nR hS (DC hS) rfl rfl)
theorem vi (hS : aV S) : dp S "true" kW := (oa (Ad hS (tA hS) rfl rfl) (nR hS (Dc hS) rfl rfl))
theorem iq (hS : aV S) : nsIn S.K mainGlobals "isinstance" = some none := by rw [hS.K]; rfl
theorem re (hS : aV S) : nsIn S.K mainGlobals "bool" = some none := by rw [hS.K]; rfl
theorem Cr (hS : aV S) : nsIn S.K mainGlobals "NAMES" = some (some (.ref 450)) := by rw [hS.K]; rfl
theorem Br (hS : aV S) : S.K.lookup 450 = some ⟨.type "tuple", none, .seq wB 0, #[]⟩ := by rw [hS.K]; rfl
theorem mh (hS : aV S) : De S 0 "len" fM := yp hS (fv := .builtin "len") rfl rfl (by decide +kernel) (.inl ⟨_, rfl⟩) G7
theorem F8 (hS : aV S) : De S 0 "abs" Cg := yp hS (fv := .builtin "abs") rfl rfl (by decide +kernel) (.inl ⟨_, rfl⟩) Gz
theorem so (hS : aV S) : De S 0 "range" fG := yp hS (fv := .type "range") rfl rfl (by decide +kernel) (.inr ⟨_, rfl⟩) Dk
theorem hV (hS : aV S) : De S 0 "sorted" cZ := yp hS (fv := .builtin "sorted") rfl rfl (by decide +kernel) (.inl ⟨_, rfl⟩) CW
theorem mE (hS : aV S) : De S 0 "max" lC := yp hS (fv := .builtin "max") rfl rfl (by decide +kernel) (.inl ⟨_, rfl⟩) G8
theorem we (hS : aV S) : De S 0 "min" rY := yp hS (fv := .builtin "min") rfl rfl (by decide +kernel) (.inl ⟨_, rfl⟩) Gy
theorem DS (hS : aV S) : De S 0 "max" sy := yp hS (fv := .builtin "max") rfl rfl (by decide +kernel) (.inl ⟨_, rfl⟩) Fg
theorem Dm (hS : aV S) : De S 0 "min" rV := yp hS (fv := .builtin "min") rfl rfl (by decide +kernel) (.inl ⟨_, rfl⟩) Gl
noncomputable def ka : Gn := ⟨[], []⟩
noncomputable def kt : List Str := ["self", "number", "begin", "end", "front_advance", "rear_advance"]
theorem kb (hS : aV S) : SB S 0 ka kt (bw (Kw S.w.params) 35) gR :=
  (af (ar bP (ig hS) (aa 0) (aa 1))
  (af (ar aX (cS hS) (aa 0) (aa 2))
  (af (ar bx (fu hS) (aa 0) (aa 3))
  (af (ar hW (pP hS) (aa 0) (aa 4))
  (af (ar iQ (qI hS) (aa 0) (aa 5))
  (af (ar a9 (dG hS) (aa 0) (aa 3))
  (af (ar aL (dR hS) (aa 0) a8)
  (af (ar aJ (b9 hS) (aa 0) cY)
  (af (ar aM (ci hS) (aa 0) bu)
  (af (ar aH (bS hS) (aa 0) bu)
  (af (ar aR (cp hS) (aa 0) bu)
  au)))))))))))
theorem kR (hS : aV S) : cU S 1 (.ref 35) gZ :=
 dz hS (np := 6) (scope := bc (Kw S.w.params) 35) rfl rfl (HG (λ _ _ _ _ _ _ => rfl)) rfl (kb hS)
noncomputable def kC : Gn := ⟨[], []⟩
noncomputable def kw : List Str := ["self"]
theorem ko (hS : aV S) : SB S 0 kC kw (bw (Kw S.w.params) 56) gQ :=
  (af (ar bL (ir hS) (aa 0) bu)
  (af (ar dT (mc hS) (aa 0) a8)
  au))
theorem kY (hS : aV S) : cU S 1 (.ref 56) gN :=
 dz hS (np := 1) (scope := bc (Kw S.w.params) 56) rfl rfl (BR (λ _ => rfl)) rfl (ko hS)
noncomputable def vn : Gn := ⟨[], []⟩
noncomputable def wG : List Str := ["node", "son"]
theorem wN (hS : aV S) : SB S 0 vn wG (bw (Kw S.w.params) 70) qf :=
  (af (bU (bf (aq aL (dR hS) (aa 0)) (aO eK a8)) (af oU
  au) au)
  (af (ar aX (cS hS) (aa 0) (cz eT (aq aX (cS hS) (aa 0)) (aq aL (dR hS) (aa 0))))
  (af (ar bx (fu hS) (aa 0) (cz eT (aq bx (fu hS) (aa 0)) (aq aL (dR hS) (aa 0))))
  (af (ar a9 (dG hS) (aa 0) (cz eT (aq a9 (dG hS) (aa 0)) (aq aL (dR hS) (aa 0))))
  (af (hG 1 (gt (ae (aq aM (ci hS) (aa 0)) (ae (aq aH (bS hS) (aa 0)) al))) (af (bU (bf (aa 1) (aO cx bu)) (af (ar aL (dR hS) (aa 1) (cz eT (aq aL (dR hS) (aa 1)) (aq aL (dR hS) (aa 0))))
  au) au)
  au))
  (af (ar aL (dR hS) (aa 0) a8)
  au))))))
theorem x9 (hS : aV S) : cU S 1 (.ref 70) bO :=
 dz hS (np := 1) (scope := bc (Kw S.w.params) 70) rfl rfl (BR (λ _ => rfl)) rfl (wN hS)
theorem dQ (hS : aV S) : hK S 1 "hand_down" bO := dS hS (fv := .ref 70) rfl rfl (x9 hS)
noncomputable def qG : Gn := ⟨["hand_down"], []⟩
noncomputable def qD : List Str := ["node", "path", "here"]
theorem qx (hS : aV S) : SB S 1 qG qD (bw (Kw S.w.params) 77) jy :=
  (af (aU 1 (dP al))
  (af (iy (bf (aa 0) (aO cx bu)) (af (bn (hU PySem.F.slot_list_append PySem.F.type_list_append kx (aa 1) (aa 0)))
  (af (aU 0 (aq aR (cp hS) (aa 0)))
  au)))
  (af (hG 2 (Gd (aa 1)) (af (bn (aE (dQ hS) (aC 0) (ae (aa 2) al)))
  au))
  au)))
theorem rN (hS : aV S) : cU S 2 (.ref 77) dH :=
 dz hS (np := 1) (scope := bc (Kw S.w.params) 77) rfl rfl (BR (λ _ => rfl)) rfl (qx hS)
theorem jv (hS : aV S) : hK S 2 "hand_down_to" dH := dS hS (fv := .ref 77) rfl rfl (rN hS)
noncomputable def qS : Gn := ⟨["max"], []⟩
noncomputable def qO : List Str := ["node", "found", "son"]
theorem q5 (hS : aV S) : SB S 0 qS qO (bw (Kw S.w.params) 84) je :=
  (af (aU 1 (aq bx (fu hS) (aa 0)))
  (af (hG 2 (gt (ae (aq aM (ci hS) (aa 0)) (ae (aq aH (bS hS) (aa 0)) al))) (af (bU (bf (aa 2) (aO cx bu)) (af (aU 1 (bT (mE hS) (aC 0) (ae (aa 1) (ae (cz eT (aq a9 (dG hS) (aa 2)) (aq aL (dR hS) (aa 2))) al))))
  au) au)
  au))
  (af (ce (aa 1))
  au)))
theorem sp (hS : aV S) : cU S 1 (.ref 84) ck :=
 dz hS (np := 1) (scope := bc (Kw S.w.params) 84) rfl rfl (BR (λ _ => rfl)) rfl (q5 hS)
theorem dY (hS : aV S) : hK S 1 "greatest_end" ck := dS hS (fv := .ref 84) rfl rfl (sp hS)
noncomputable def qE : Gn := ⟨["greatest_end"], []⟩
noncomputable def qW : List Str := ["node", "limit"]
theorem qZ (hS : aV S) : SB S 1 qE qW (bw (Kw S.w.params) 91) gK :=
  (af (iy (bf (aa 0) (aO cx bu)) (af (aU 1 (aE (dY hS) (aC 0) (ae (aa 0) al)))
  (af (bU (bf (aa 1) (aO eK (aq a9 (dG hS) (aa 0)))) (af oU
  au) au)
  (af (ar a9 (dG hS) (aa 0) (aa 1))
  (af (aU 0 (aq aR (cp hS) (aa 0)))
  au)))))
  au)
theorem rx (hS : aV S) : cU S 2 (.ref 91) eM :=
 dz hS (np := 1) (scope := bc (Kw S.w.params) 91) rfl rfl (BR (λ _ => rfl)) rfl (qZ hS)
theorem su (hS : aV S) : hK S 2 "renew_limits" eM := dS hS (fv := .ref 91) rfl rfl (rx hS)
noncomputable def DP : Gn := ⟨[], []⟩
noncomputable def Eb : List Str := ["tree", "parent", "node", "other"]
theorem Ea (hS : aV S) : SB S 0 DP Eb (bw (Kw S.w.params) 98) yM :=
  (af (bU (bf (aa 1) (aO lx bu)) (af (ar bL (ir hS) (aa 0) (aa 3))
  au) (af (bU (bf (aq aM (ci hS) (aa 1)) (aO lx (aa 2))) (af (ar aM (ci hS) (aa 1) (aa 3))
  au) (af (ar aH (bS hS) (aa 1) (aa 3))
  au))
  au))
  (af (bU (bf (aa 3) (aO cx bu)) (af (ar aR (cp hS) (aa 3) (aa 1))
  au) au)
  au))
theorem Fk (hS : aV S) : cU S 1 (.ref 98) nv :=
 dz hS (np := 4) (scope := bc (Kw S.w.params) 98) rfl rfl (Bf (λ _ _ _ _ => rfl)) rfl (Ea hS)
theorem wu (hS : aV S) : hK S 1 "hang" nv := dS hS (fv := .ref 98) rfl rfl (Fk hS)
noncomputable def wF : Gn := ⟨["hand_down", "hang", "greatest_end"], []⟩
noncomputable def wg : List Str := ["tree", "node", "son"]
theorem vN (hS : aV S) : SB S 1 wF wg (bw (Kw S.w.params) 105) mv :=
  (af (aU 2 (aq aH (bS hS) (aa 1)))
  (af (bn (aE (dQ hS) (aC 0) (ae (aa 1) al)))
  (af (bn (aE (dQ hS) (aC 0) (ae (aa 2) al)))
  (af (ar aH (bS hS) (aa 1) (aq aM (ci hS) (aa 2)))
  (af (bU (bf (aq aM (ci hS) (aa 2)) (aO cx bu)) (af (ar aR (cp hS) (aq aM (ci hS) (aa 2)) (aa 1))
  au) au)
  (af (bn (aE (wu hS) (aC 1) (ae (aa 0) (ae (aq aR (cp hS) (aa 1)) (ae (aa 1) (ae (aa 2) al))))))
  (af (ar aM (ci hS) (aa 2) (aa 1))
  (af (ar aR (cp hS) (aa 1) (aa 2))
  (af (ar a9 (dG hS) (aa 1) (aE (dY hS) (aC 2) (ae (aa 1) al)))
  (af (ar a9 (dG hS) (aa 2) (aE (dY hS) (aC 2) (ae (aa 2) al)))
  au))))))))))
theorem xJ (hS : aV S) : cU S 2 (.ref 105) gA :=
 dz hS (np := 2) (scope := bc (Kw S.w.params) 105) rfl rfl (vS (λ _ _ => rfl)) rfl (vN hS)
theorem lY (hS : aV S) : hK S 2 "turn_left" gA := dS hS (fv := .ref 105) rfl rfl (xJ hS)
noncomputable def tz : Gn := ⟨["hand_down", "hang", "greatest_end"], []⟩
noncomputable def uj : List Str := ["tree", "node", "son"]
theorem uh (hS : aV S) : SB S 1 tz uj (bw (Kw S.w.params) 112) kI :=
  (af (aU 2 (aq aM (ci hS) (aa 1)))
  (af (bn (aE (dQ hS) (aC 0) (ae (aa 1) al)))
  (af (bn (aE (dQ hS) (aC 0) (ae (aa 2) al)))
  (af (ar aM (ci hS) (aa 1) (aq aH (bS hS) (aa 2)))
  (af (bU (bf (aq aH (bS hS) (aa 2)) (aO cx bu)) (af (ar aR (cp hS) (aq aH (bS hS) (aa 2)) (aa 1))
  au) au)
  (af (bn (aE (wu hS) (aC 1) (ae (aa 0) (ae (aq aR (cp hS) (aa 1)) (ae (aa 1) (ae (aa 2) al))))))
  (af (ar aH (bS hS) (aa 2) (aa 1))
  (af (ar aR (cp hS) (aa 1) (aa 2))
  (af (ar a9 (dG hS) (aa 1) (aE (dY hS) (aC 2) (ae (aa 1) al)))
  (af (ar a9 (dG hS) (aa 2) (aE (dY hS) (aC 2) (ae (aa 2) al)))
  au))))))))))
theorem vh (hS : aV S) : cU S 2 (.ref 112) fL :=
 dz hS (np := 2) (scope := bc (Kw S.w.params) 112) rfl rfl (vS (λ _ _ => rfl)) rfl (uh hS)
theorem lg (hS : aV S) : hK S 2 "turn_right" fL := dS hS (fv := .ref 112) rfl rfl (vh hS)
noncomputable def AG : Gn := ⟨[], []⟩
noncomputable def A4 : List Str := ["node"]
theorem AL (hS : aV S) : SB S 0 AG A4 (bw (Kw S.w.params) 119) tf :=
  (af (ce (ph (dX (aa 0) (aO cx bu)) (iG (aq aJ (b9 hS) (aa 0)))))
  au)
theorem Bs (hS : aV S) : cU S 1 (.ref 119) ge :=
 dz hS (np := 1) (scope := bc (Kw S.w.params) 119) rfl rfl (BR (λ _ => rfl)) rfl (AL hS)
theorem jC (hS : aV S) : hK S 1 "is_red" ge := dS hS (fv := .ref 119) rfl rfl (Bs hS)
noncomputable def pY : Gn := ⟨["turn_left", "turn_right"], []⟩
noncomputable def pH : List Str := ["tree", "node", "is_left", "parent"]
theorem p8 (hS : aV S) : SB S 2 pY pH (bw (Kw S.w.params) 133) iP :=
  (af (aU 3 (aq aR (cp hS) (aa 1)))
  (af (bU (dC (bV (aa 2)) (dC (bf (aq aH (bS hS) (aa 3)) (aO lx (aa 1))) fN)) (af (bn (aE (lY hS) (aC 0) (ae (aa 0) (ae (aa 3) al))))
  (af (ce (aa 3))
  au)) au)
  (af (bU (dC (nC (bV (aa 2))) (dC (bf (aq aM (ci hS) (aa 3)) (aO lx (aa 1))) fN)) (af (bn (aE (lg hS) (aC 1) (ae (aa 0) (ae (aa 3) al))))
  (af (ce (aa 3))
  au)) au)
  (af (ce (aa 1))
  au))))
theorem qA (hS : aV S) : cU S 3 (.ref 133) gk :=
 dz hS (np := 3) (scope := bc (Kw S.w.params) 133) rfl rfl (yC (λ _ _ _ => rfl)) rfl (p8 hS)
theorem qX (hS : aV S) : hK S 3 "turned_inward" gk := dS hS (fv := .ref 133) rfl rfl (qA hS)
noncomputable def nQ : Gn := ⟨["is_red", "turned_inward", "turn_right", "turn_left"], []⟩
noncomputable def nq : List Str := ["tree", "node", "parent", "above", "is_left", "uncle"]
theorem nG (hS : aV S) : SB S 3 nQ nq (bw (Kw S.w.params) 126) gI :=
  (af (iy (bV (aE (jC hS) (aC 0) (ae (aq aR (cp hS) (aa 1)) al))) (af (aU 2 (aq aR (cp hS) (aa 1)))
  (af (aU 3 (aq aR (cp hS) (aa 2)))
  (af (aU 4 (dX (aq aM (ci hS) (aa 3)) (aO lx (aa 2))))
  (af (aU 5 (lz (bV (aa 4)) (aq aH (bS hS) (aa 3)) (aq aM (ci hS) (aa 3))))
  (af (bU (bV (aE (jC hS) (aC 0) (ae (aa 5) al))) (af (ar aJ (b9 hS) (aa 2) cY)
  (af (ar aJ (b9 hS) (aa 5) cY)
  (af (ar aJ (b9 hS) (aa 3) cY)
  (af (aU 1 (aa 3))
  au)))) (af (aU 1 (aE (qX hS) (aC 1) (ae (aa 0) (ae (aa 1) (ae (aa 4) al)))))
  (af (ar aJ (b9 hS) (aq aR (cp hS) (aa 1)) cY)
  (af (ar aJ (b9 hS) (aa 3) cY)
  (af (bU (bV (aa 4)) (af (bn (aE (lg hS) (aC 2) (ae (aa 0) (ae (aa 3) al))))
  au) (af (bn (aE (lY hS) (aC 3) (ae (aa 0) (ae (aa 3) al))))
  au))
  au)))))
  au))))))
  (af (ar aJ (b9 hS) (aq bL (ir hS) (aa 0)) cY)
  au))
theorem nW (hS : aV S) : cU S 4 (.ref 126) dj :=
 dz hS (np := 2) (scope := bc (Kw S.w.params) 126) rfl rfl (vS (λ _ _ => rfl)) rfl (nG hS)
theorem ot (hS : aV S) : hK S 4 "colour_inserted" dj := dS hS (fv := .ref 126) rfl rfl (nW hS)
noncomputable def xZ : Gn := ⟨["hand_down", "max", "colour_inserted"], []⟩
noncomputable def w7 : List Str := ["tree", "node", "here", "parent", "is_left"]
theorem xx (hS : aV S) : SB S 4 xZ w7 (bw (Kw S.w.params) 140) kK :=
  (af (ar dT (mc hS) (aa 0) (cz eT (aq dT (mc hS) (aa 0)) a8))
  (af (ar aM (ci hS) (aa 1) bu)
  (af (ar aH (bS hS) (aa 1) bu)
  (af (ar aR (cp hS) (aa 1) bu)
  (af (ar aL (dR hS) (aa 1) a8)
  (af (ar a9 (dG hS) (aa 1) (aq bx (fu hS) (aa 1)))
  (af (bU (bf (aq bL (ir hS) (aa 0)) (aO lx bu)) (af (ar aJ (b9 hS) (aa 1) cY)
  (af (ar bL (ir hS) (aa 0) (aa 1))
  (af oU
  au))) au)
  (af (aU 2 (aq bL (ir hS) (aa 0)))
  (af (aU 3 bu)
  (af (aU 4 cY)
  (af (iy (bf (aa 2) (aO cx bu)) (af (bn (aE (dQ hS) (aC 0) (ae (aa 2) al)))
  (af (ar a9 (dG hS) (aa 2) (bT (mE hS) (aC 1) (ae (aq a9 (dG hS) (aa 2)) (ae (aq bx (fu hS) (aa 1)) al))))
  (af (aU 3 (aa 2))
  (af (aU 4 (dX (aq aX (cS hS) (aa 1)) (aO oX (aq aX (cS hS) (aa 2)))))
  (af (aU 2 (lz (bV (aa 4)) (aq aM (ci hS) (aa 2)) (aq aH (bS hS) (aa 2))))
  au))))))
  (af (ar aR (cp hS) (aa 1) (aa 3))
  (af (bU (bV (aa 4)) (af (ar aM (ci hS) (aa 3) (aa 1))
  au) (af (ar aH (bS hS) (aa 3) (aa 1))
  au))
  (af (ar aJ (b9 hS) (aa 1) cY)
  (af (bn (aE (ot hS) (aC 2) (ae (aa 0) (ae (aa 1) al))))
  au)))))))))))))))
theorem yP (hS : aV S) : cU S 5 (.ref 140) go :=
 dz hS (np := 2) (scope := bc (Kw S.w.params) 140) rfl rfl (vS (λ _ _ => rfl)) rfl (xx hS)
theorem yE (hS : aV S) : hK S 5 "put_node" go := dS hS (fv := .ref 140) rfl rfl (yP hS)
noncomputable def rJ : Gn := ⟨["hand_down"], []⟩
noncomputable def rA : List Str := ["node"]
theorem sm (hS : aV S) : SB S 1 rJ rA (bw (Kw S.w.params) 147) jV :=
  (af (bn (aE (dQ hS) (aC 0) (ae (aa 0) al)))
  (af (iy (bf (aq aM (ci hS) (aa 0)) (aO cx bu)) (af (aU 0 (aq aM (ci hS) (aa 0)))
  (af (bn (aE (dQ hS) (aC 0) (ae (aa 0) al)))
  au)))
  (af (ce (aa 0))
  au)))
theorem um (hS : aV S) : cU S 2 (.ref 147) io :=
 dz hS (np := 1) (scope := bc (Kw S.w.params) 147) rfl rfl (BR (λ _ => rfl)) rfl (sm hS)
theorem tH (hS : aV S) : hK S 2 "first_below" io := dS hS (fv := .ref 147) rfl rfl (um hS)
noncomputable def tY : Gn := ⟨["hang", "greatest_end"], []⟩
noncomputable def uq : List Str := ["tree", "node", "other", "son"]
theorem tZ (hS : aV S) : SB S 1 tY uq (bw (Kw S.w.params) 154) kM :=
  (af (bn (aE (wu hS) (aC 0) (ae (aa 0) (ae (aq aR (cp hS) (aa 1)) (ae (aa 1) (ae (aa 2) al))))))
  (af (ar aM (ci hS) (aa 2) (aq aM (ci hS) (aa 1)))
  (af (ar aH (bS hS) (aa 2) (aq aH (bS hS) (aa 1)))
  (af (ar aJ (b9 hS) (aa 2) (aq aJ (b9 hS) (aa 1)))
  (af (hG 3 (gt (ae (aq aM (ci hS) (aa 2)) (ae (aq aH (bS hS) (aa 2)) al))) (af (bU (bf (aa 3) (aO cx bu)) (af (ar aR (cp hS) (aa 3) (aa 2))
  au) au)
  au))
  (af (ar a9 (dG hS) (aa 2) (aE (dY hS) (aC 1) (ae (aa 2) al)))
  au))))))
theorem u6 (hS : aV S) : cU S 2 (.ref 154) iZ :=
 dz hS (np := 3) (scope := bc (Kw S.w.params) 154) rfl rfl (yC (λ _ _ _ => rfl)) rfl (tZ hS)
theorem vf (hS : aV S) : hK S 2 "take_place" iZ := dS hS (fv := .ref 154) rfl rfl (u6 hS)
noncomputable def qV : Gn := ⟨["turn_left", "turn_right"], []⟩
noncomputable def qK : List Str := ["tree", "node", "is_left"]
theorem qB (hS : aV S) : SB S 2 qV qK (bw (Kw S.w.params) 182) jt :=
  (af (bU (bV (aa 2)) (af (bn (aE (lY hS) (aC 0) (ae (aa 0) (ae (aa 1) al))))
  au) (af (bn (aE (lg hS) (aC 1) (ae (aa 0) (ae (aa 1) al))))
  au))
  au)
theorem sY (hS : aV S) : cU S 3 (.ref 182) eJ :=
 dz hS (np := 3) (scope := bc (Kw S.w.params) 182) rfl rfl (yC (λ _ _ _ => rfl)) rfl (qB hS)
theorem jp (hS : aV S) : hK S 3 "turn_towards" eJ := dS hS (fv := .ref 182) rfl rfl (sY hS)
noncomputable def uo : Gn := ⟨[], []⟩
noncomputable def uc : List Str := ["parent", "is_left"]
theorem tR (hS : aV S) : SB S 0 uo uc (bw (Kw S.w.params) 175) kD :=
  (af (ce (lz (bV (aa 1)) (aq aH (bS hS) (aa 0)) (aq aM (ci hS) (aa 0))))
  au)
theorem vq (hS : aV S) : cU S 1 (.ref 175) fR :=
 dz hS (np := 2) (scope := bc (Kw S.w.params) 175) rfl rfl (vS (λ _ _ => rfl)) rfl (tR hS)
theorem kJ (hS : aV S) : hK S 1 "sibling_of" fR := dS hS (fv := .ref 175) rfl rfl (vq hS)
noncomputable def vk : Gn := ⟨["sibling_of", "is_red", "turn_towards"], []⟩
noncomputable def wA : List Str := ["tree", "node", "parent", "is_left", "other", "outer", "inner"]
theorem vY (hS : aV S) : SB S 3 vk wA (bw (Kw S.w.params) 189) mu :=
  (af (aU 4 (aE (kJ hS) (aC 0) (ae (aa 2) (ae (aa 3) al))))
  (af (bU (bV (aE (jC hS) (aC 1) (ae (aa 4) al))) (af (ar aJ (b9 hS) (aa 4) cY)
  (af (ar aJ (b9 hS) (aa 2) cY)
  (af (bn (aE (jp hS) (aC 2) (ae (aa 0) (ae (aa 2) (ae (aa 3) al)))))
  (af (aU 4 (aE (kJ hS) (aC 0) (ae (aa 2) (ae (aa 3) al))))
  au)))) au)
  (af (aU 5 (lz (bV (aa 3)) (aq aH (bS hS) (aa 4)) (aq aM (ci hS) (aa 4))))
  (af (aU 6 (lz (bV (aa 3)) (aq aM (ci hS) (aa 4)) (aq aH (bS hS) (aa 4))))
  (af (bU (dC (nC (bV (aE (jC hS) (aC 1) (ae (aa 5) al)))) (dC (nC (bV (aE (jC hS) (aC 1) (ae (aa 6) al)))) fN)) (af (ar aJ (b9 hS) (aa 4) cY)
  (af (bU (uF (bV (aq aJ (b9 hS) (aa 2))) (uF (bf (aa 2) (aO lx (aq bL (ir hS) (aa 0)))) zp)) (af (ar aJ (b9 hS) (aa 2) cY)
  (af (ce bu)
  au)) au)
  (af (ce (aa 2))
  au))) au)
  (af (bU (nC (bV (aE (jC hS) (aC 1) (ae (aa 5) al)))) (af (ar aJ (b9 hS) (aa 6) cY)
  (af (ar aJ (b9 hS) (aa 4) cY)
  (af (bn (aE (jp hS) (aC 2) (ae (aa 0) (ae (aa 4) (ae (y0 (aa 3)) al)))))
  (af (aU 4 (aE (kJ hS) (aC 0) (ae (aa 2) (ae (aa 3) al))))
  (af (aU 5 (lz (bV (aa 3)) (aq aH (bS hS) (aa 4)) (aq aM (ci hS) (aa 4))))
  au))))) au)
  (af (ar aJ (b9 hS) (aa 4) (aq aJ (b9 hS) (aa 2)))
  (af (ar aJ (b9 hS) (aa 2) cY)
  (af (ar aJ (b9 hS) (aa 5) cY)
  (af (bn (aE (jp hS) (aC 2) (ae (aa 0) (ae (aa 2) (ae (aa 3) al)))))
  (af (ce bu)
  au)))))))))))
theorem yk (hS : aV S) : cU S 4 (.ref 189) jQ :=
 dz hS (np := 4) (scope := bc (Kw S.w.params) 189) rfl rfl (Bf (λ _ _ _ _ => rfl)) rfl (vY hS)
theorem wX (hS : aV S) : hK S 4 "lightened" jQ := dS hS (fv := .ref 189) rfl rfl (yk hS)
noncomputable def oe : Gn := ⟨["is_red", "lightened"], []⟩
noncomputable def oh : List Str := ["tree", "node", "parent", "is_left"]
theorem oA (hS : aV S) : SB S 4 oe oh (bw (Kw S.w.params) 168) ii :=
  (af (iy (dC (bf (aa 1) (aO cx (aq bL (ir hS) (aa 0)))) (dC (nC (bV (aE (jC hS) (aC 0) (ae (aa 1) al)))) fN)) (af (aU 3 (dX (aq aM (ci hS) (aa 2)) (aO lx (aa 1))))
  (af (aU 1 (aE (wX hS) (aC 1) (ae (aa 0) (ae (aa 1) (ae (aa 2) (ae (aa 3) al))))))
  (af (bU (bf (aa 1) (aO lx bu)) (af oU
  au) au)
  (af (aU 2 (aq aR (cp hS) (aa 1)))
  au)))))
  (af (bU (bf (aa 1) (aO cx bu)) (af (ar aJ (b9 hS) (aa 1) cY)
  au) au)
  au))
theorem pw (hS : aV S) : cU S 5 (.ref 168) fH :=
 dz hS (np := 3) (scope := bc (Kw S.w.params) 168) rfl rfl (yC (λ _ _ _ => rfl)) rfl (oA hS)
theorem pN (hS : aV S) : hK S 5 "colour_dropped" fH := dS hS (fv := .ref 168) rfl rfl (pw hS)
noncomputable def wH : Gn := ⟨["hand_down_to", "first_below", "hang", "take_place", "greatest_end", "colour_dropped"], []⟩
noncomputable def wn : List Str := ["tree", "node", "gone", "son", "parent", "was_red", "here"]
theorem wv (hS : aV S) : SB S 5 wH wn (bw (Kw S.w.params) 161) md :=
  (af (ar dT (mc hS) (aa 0) (cz kH (aq dT (mc hS) (aa 0)) a8))
  (af (bn (aE (jv hS) (aC 0) (ae (aa 1) al)))
  (af (aU 2 (aa 1))
  (af (bU (dC (bf (aq aM (ci hS) (aa 1)) (aO cx bu)) (dC (bf (aq aH (bS hS) (aa 1)) (aO cx bu)) fN)) (af (aU 2 (aE (tH hS) (aC 1) (ae (aq aH (bS hS) (aa 1)) al)))
  au) au)
  (af (aU 3 (lz (bf (aq aM (ci hS) (aa 2)) (aO cx bu)) (aq aM (ci hS) (aa 2)) (aq aH (bS hS) (aa 2))))
  (af (aU 4 (aq aR (cp hS) (aa 2)))
  (af (aU 5 (aq aJ (b9 hS) (aa 2)))
  (af (bn (aE (wu hS) (aC 2) (ae (aa 0) (ae (aa 4) (ae (aa 2) (ae (aa 3) al))))))
  (af (bU (bf (aa 2) (aO cx (aa 1))) (af (bn (aE (vf hS) (aC 3) (ae (aa 0) (ae (aa 1) (ae (aa 2) al)))))
  (af (aU 4 (lz (bf (aa 4) (aO lx (aa 1))) (aa 2) (aa 4)))
  au)) au)
  (af (aU 6 (aa 4))
  (af (iy (bf (aa 6) (aO cx bu)) (af (ar a9 (dG hS) (aa 6) (aE (dY hS) (aC 4) (ae (aa 6) al)))
  (af (aU 6 (aq aR (cp hS) (aa 6)))
  au)))
  (af (bU (nC (bV (aa 5))) (af (bn (aE (pN hS) (aC 5) (ae (aa 0) (ae (aa 3) (ae (aa 4) al)))))
  au) au)
  (af (ar aM (ci hS) (aa 1) bu)
  (af (ar aH (bS hS) (aa 1) bu)
  (af (ar aR (cp hS) (aa 1) bu)
  au)))))))))))))))
theorem xw (hS : aV S) : cU S 6 (.ref 161) fD :=
 dz hS (np := 2) (scope := bc (Kw S.w.params) 161) rfl rfl (vS (λ _ _ => rfl)) rfl (wv hS)
theorem yj (hS : aV S) : hK S 6 "drop_node" fD := dS hS (fv := .ref 161) rfl rfl (xw hS)
noncomputable def pD : Gn := ⟨["len", "hand_down"], []⟩
noncomputable def oY : List Str := ["tree", "begin", "end", "found", "waiting", "node"]
theorem o9 (hS : aV S) : SB S 1 pD oY (bw (Kw S.w.params) 196) ff :=
  (af (aU 3 (dP al))
  (af (aU 4 (dP al))
  (af (aU 5 (aq bL (ir hS) (aa 0)))
  (af (iy (uF (bf (aa 5) (aO cx bu)) (uF (bf (bT (mh hS) (aC 0) (ae (aa 4) al)) (aO qt a8)) zp)) (af (iy (bf (aa 5) (aO cx bu)) (af (bn (aE (dQ hS) (aC 1) (ae (aa 5) al)))
  (af (bU (bf (aq a9 (dG hS) (aa 5)) (aO fV (aa 1))) (af (aU 5 bu)
  au) (af (bn (hU PySem.F.slot_list_append PySem.F.type_list_append kx (aa 4) (aa 5)))
  (af (aU 5 (aq aM (ci hS) (aa 5)))
  au)))
  au)))
  (af (bU (bf (bT (mh hS) (aC 0) (ae (aa 4) al)) (aO qt a8)) (af (aU 5 (Cc (aa 4)))
  (af (bU (dC (bf (aq aX (cS hS) (aa 5)) (aO oX (aa 2))) (dC (bf (aq bx (fu hS) (aa 5)) (aO Ci (aa 1))) fN)) (af (bn (hU PySem.F.slot_list_append PySem.F.type_list_append kx (aa 3) (aa 5)))
  au) au)
  (af (aU 5 (lz (bf (aq aX (cS hS) (aa 5)) (aO oX (aa 2))) (aq aH (bS hS) (aa 5)) bu))
  au))) au)
  au)))
  (af (ce (aa 3))
  au)))))
theorem q0 (hS : aV S) : cU S 2 (.ref 196) bF :=
 dz hS (np := 3) (scope := bc (Kw S.w.params) 196) rfl rfl (yC (λ _ _ _ => rfl)) rfl (o9 hS)
theorem fc (hS : aV S) : hK S 2 "nodes_between" bF := dS hS (fv := .ref 196) rfl rfl (q0 hS)
noncomputable def v6 : Gn := ⟨["len", "hand_down", "max", "renew_limits"], []⟩
noncomputable def vO : List Str := ["tree", "at", "many", "waiting", "node"]
theorem vP (hS : aV S) : SB S 2 v6 vO (bw (Kw S.w.params) 203) jM :=
  (af (bU (bf (aa 2) (aO oX a8)) (af oU
  au) au)
  (af (aU 3 (dP (ae (aq bL (ir hS) (aa 0)) al)))
  (af (iy (bf (bT (mh hS) (aC 0) (ae (aa 3) al)) (aO qt a8)) (af (aU 4 (Cc (aa 3)))
  (af (bU (bf (aa 4) (aO cx bu)) (af (bn (aE (dQ hS) (aC 1) (ae (aa 4) al)))
  (af (bU (bf (aq a9 (dG hS) (aa 4)) (aO qt (aa 1))) (af (bU (dC (bf (aq aH (bS hS) (aa 4)) (aO cx bu)) (dC (bf (aq aX (cS hS) (aa 4)) (aO qt (cz eT (aa 1) (aa 2)))) fN)) (af (ar aL (dR hS) (aq aH (bS hS) (aa 4)) (cz kH (aq aL (dR hS) (aq aH (bS hS) (aa 4))) (aa 2)))
  au) (af (bn (hU PySem.F.slot_list_append PySem.F.type_list_append kx (aa 3) (aq aH (bS hS) (aa 4))))
  au))
  (af (bn (hU PySem.F.slot_list_append PySem.F.type_list_append kx (aa 3) (aq aM (ci hS) (aa 4))))
  (af (bU (bf (aq aX (cS hS) (aa 4)) (aO qt (aa 1))) (af (ar aX (cS hS) (aa 4) (bT (mE hS) (aC 2) (ae (aa 1) (ae (cz kH (aq aX (cS hS) (aa 4)) (aa 2)) al))))
  au) au)
  (af (bU (bf (aq bx (fu hS) (aa 4)) (aO qt (aa 1))) (af (ar bx (fu hS) (aa 4) (bT (mE hS) (aC 2) (ae (aa 1) (ae (cz kH (aq bx (fu hS) (aa 4)) (aa 2)) al))))
  au) au)
  (af (bn (aE (su hS) (aC 3) (ae (aa 4) al)))
  au))))) au)
  au)) au)
  au)))
  au)))
theorem xd (hS : aV S) : cU S 3 (.ref 203) iM :=
 dz hS (np := 3) (scope := bc (Kw S.w.params) 203) rfl rfl (yC (λ _ _ _ => rfl)) rfl (vP hS)
theorem xF (hS : aV S) : hK S 3 "close_gap" iM := dS hS (fv := .ref 203) rfl rfl (xd hS)
noncomputable def Hd : Gn := ⟨["isinstance", "bool"], []⟩
noncomputable def Gv : List Str := ["one", "other"]
theorem GV (hS : aV S) : SB S 0 Hd Gv (bw (Kw S.w.params) 210) Hq :=
  (af (bU (uF (bV (mB rfl rfl (aC 0) (aC 1) (iq hS) (re hS) (by decide +kernel) (by decide +kernel) (aa 0) (by decide +kernel) (by decide +kernel) (by decide +kernel) (by decide +kernel))) (uF (bV (mB rfl rfl (aC 0) (aC 1) (iq hS) (re hS) (by decide +kernel) (by decide +kernel) (aa 1) (by decide +kernel) (by decide +kernel) (by decide +kernel) (by decide +kernel))) zp)) (af (ce (ph (mB rfl rfl (aC 0) (aC 1) (iq hS) (re hS) (by decide +kernel) (by decide +kernel) (aa 0) (by decide +kernel) (by decide +kernel) (by decide +kernel) (by decide +kernel)) (ph (mB rfl rfl (aC 0) (aC 1) (iq hS) (re hS) (by decide +kernel) (by decide +kernel) (aa 1) (by decide +kernel) (by decide +kernel) (by decide +kernel) (by decide +kernel)) (iG (dX (aa 0) (aO eK (aa 1)))))))
  au) au)
  (af (ce (dX (aa 0) (aO eK (aa 1))))
  au))
theorem Hx (hS : aV S) : cU S 1 (.ref 210) AC :=
 dz hS (np := 2) (scope := bc (Kw S.w.params) 210) rfl rfl (vS (λ _ _ => rfl)) rfl (GV hS)
theorem Hi (hS : aV S) : hK S 1 "eq" AC := dS hS (fv := .ref 210) rfl rfl (Hx hS)
noncomputable def tw : Gn := ⟨["range", "len"], []⟩
noncomputable def tp : List Str := ["plist", "number", "at"]
theorem un (hS : aV S) : SB S 0 tw tp (bw (Kw S.w.params) 217) fK :=
  (af (hG 2 (bT (so hS) (aC 0) (ae (bT (mh hS) (aC 1) (ae (aa 0) al)) al)) (af (bU (bf (cu (cu (aa 0) (aa 2)) a8) (aO eK (aa 1))) (af (ce (aa 2))
  au) au)
  au))
  (af (ce (EY a8))
  au))
theorem v7 (hS : aV S) : cU S 1 (.ref 217) cP :=
 dz hS (np := 2) (scope := bc (Kw S.w.params) 217) rfl rfl (vS (λ _ _ => rfl)) rfl (un hS)
theorem la (hS : aV S) : hK S 1 "plist_find" cP := dS hS (fv := .ref 217) rfl rfl (v7 hS)
noncomputable def v8 : Gn := ⟨["plist_find"], []⟩
noncomputable def wi : List Str := ["plist", "number", "at"]
theorem wL (hS : aV S) : SB S 1 v8 wi (bw (Kw S.w.params) 224) jP :=
  (af (aU 2 (aE (la hS) (aC 0) (ae (aa 0) (ae (aa 1) al))))
  (af (ce (lz (bf (aa 2) (aO Ci a8)) (gt (ae (cu (cu (aa 0) (aa 2)) a8) al)) bu))
  au))
theorem xL (hS : aV S) : cU S 2 (.ref 224) em :=
 dz hS (np := 2) (scope := bc (Kw S.w.params) 224) rfl rfl (vS (λ _ _ => rfl)) rfl (wL hS)
theorem qn (hS : aV S) : hK S 2 "plist_get" em := dS hS (fv := .ref 224) rfl rfl (xL hS)
noncomputable def tj : Gn := ⟨["plist_find"], []⟩
noncomputable def tP : List Str := ["plist", "number", "value", "at"]
theorem tB (hS : aV S) : SB S 1 tj tP (bw (Kw S.w.params) 231) oG :=
  (af (aU 3 (aE (la hS) (aC 0) (ae (aa 0) (ae (aa 1) al))))
  (af (bU (bf (aa 3) (aO fV a8)) (af (ce (cz yX (aa 0) (dP (ae (gt (ae (aa 1) (ae (aa 2) al))) al))))
  au) au)
  (af zR
  au)))
theorem vC (hS : aV S) : cU S 2 (.ref 231) gS :=
 dz hS (np := 3) (scope := bc (Kw S.w.params) 231) rfl rfl (yC (λ _ _ _ => rfl)) rfl (tB hS)
theorem vL (hS : aV S) : hK S 2 "plist_with" gS := dS hS (fv := .ref 231) rfl rfl (vC hS)
noncomputable def us : Gn := ⟨["plist_find", "eq"], []⟩
noncomputable def tN : List Str := ["plist", "number", "value", "at"]
theorem tm (hS : aV S) : SB S 1 us tN (bw (Kw S.w.params) 238) oQ :=
  (af (aU 3 (aE (la hS) (aC 0) (ae (aa 0) (ae (aa 1) al))))
  (af (ce (ph (dX (aa 3) (aO Ci a8)) (iG (aE (Hi hS) (aC 1) (ae (cu (cu (aa 0) (aa 3)) a8) (ae (aa 2) al))))))
  au))
theorem vR (hS : aV S) : cU S 2 (.ref 238) gV :=
 dz hS (np := 3) (scope := bc (Kw S.w.params) 238) rfl rfl (yC (λ _ _ _ => rfl)) rfl (tm hS)
theorem vU (hS : aV S) : hK S 2 "holds_pair" gV := dS hS (fv := .ref 238) rfl rfl (vR hS)
noncomputable def mQ : Gn := ⟨["NAMES"], []⟩
noncomputable def mU : List Str := ["self", "name"]
theorem mW (hS : aV S) : SB S 0 mQ mU (bw (Kw S.w.params) 471) jr :=
  (af (ce (cz eT (aq lZ (w9 hS) (aa 0)) (AF (aC 0) (Cr hS) (Br hS) AJ (by decide) (aa 1))))
  au)
theorem nM (hS : aV S) : cU S 1 (.ref 471) c7 :=
 dz hS (np := 2) (scope := bc (Kw S.w.params) 471) rfl rfl (vS (λ _ _ => rfl)) rfl (mW hS)
theorem dL (hS : aV S) : Hr S 1 5 "number" c7 := ⟨471, Dc hS, by rw [hS.K, hS.cadr]; rfl, by rw [hS.K]; rfl, by rw [hS.K]; rfl, λ k h => by
  rw [hS.flds] at h
  have := List.mem_of_getElem? h
  revert this; decide +kernel, nM hS⟩
noncomputable def lH : Gn := ⟨[], []⟩
noncomputable def lE : List Str := ["self", "lisp"]
theorem lD (hS : aV S) : SB S 1 lH lE (bw (Kw S.w.params) 252) iA :=
  (af (ar wj (DZ hS) (aa 0) (aa 1))
  (af (ar jB (sO hS) (aa 0) (aq jB (sO hS) (aa 1)))
  (af (ar kW (vi hS) (aa 0) (aq kW (vi hS) (aa 1)))
  (af (ar fE (qk hS) (aa 0) (ms (dL hS) (aa 1) (ae sU al)))
  (af (ar iO (qU hS) (aa 0) (ms (dL hS) (aa 1) (ae sU al)))
  (af (ar gP (oN hS) (aa 0) (ms (dL hS) (aa 1) (ae sU al)))
  (af (ar dm (kG hS) (aa 0) (ms (dL hS) (aa 1) (ae sU al)))
  (af (ar lQ (yi hS) (aa 0) (ms (dL hS) (aa 1) (ae sU al)))
  (af (ar l9 (xM hS) (aa 0) oV)
  au)))))))))
theorem ml (hS : aV S) : cU S 2 (.ref 252) iE :=
 dz hS (np := 2) (scope := bc (Kw S.w.params) 252) rfl rfl (vS (λ _ _ => rfl)) rfl (lD hS)
noncomputable def mX : Gn := ⟨["eq"], []⟩
noncomputable def mI : List Str := ["self", "value"]
theorem mP (hS : aV S) : SB S 1 mX mI (bw (Kw S.w.params) 259) dD :=
  (af (ce (aE (Hi hS) (aC 0) (ae (aa 1) (ae (aq jB (sO hS) (aa 0)) al))))
  au)
theorem nn (hS : aV S) : cU S 2 (.ref 259) bC :=
 dz hS (np := 2) (scope := bc (Kw S.w.params) 259) rfl rfl (vS (λ _ _ => rfl)) rfl (mP hS)
theorem iX (hS : aV S) : Hr S 2 4 "is_nil" bC := ⟨259, tA hS, by rw [hS.K, hS.cadr]; rfl, by rw [hS.K]; rfl, by rw [hS.K]; rfl, λ k h => by
  rw [hS.flds] at h
  have := List.mem_of_getElem? h
  revert this; decide +kernel, nn hS⟩
noncomputable def wS : Gn := ⟨["plist_get"], []⟩
noncomputable def xC : List Str := ["rules", "plist", "number", "found", "category"]
theorem yb (hS : aV S) : SB S 2 wS xC (bw (Kw S.w.params) 273) lc :=
  (af (aU 3 (aE (qn hS) (aC 0) (ae (aa 1) (ae (aa 2) al))))
  (af (bU (bf (aa 3) (aO lx bu)) (af (aU 4 (aE (qn hS) (aC 0) (ae (aa 1) (ae (aq fE (qk hS) (aa 0)) al))))
  (af (bU (dC (bf (aa 4) (aO cx bu)) (dC DE fN)) (af zR
  au) au)
  au)) au)
  (af (ce (lz (bf (aa 3) (aO lx bu)) (aq jB (sO hS) (aa 0)) (cu (aa 3) a8)))
  au)))
theorem zd (hS : aV S) : cU S 3 (.ref 273) jg :=
 dz hS (np := 3) (scope := bc (Kw S.w.params) 273) rfl rfl (yC (λ _ _ _ => rfl)) rfl (yb hS)
theorem zg (hS : aV S) : hK S 3 "value_in" jg := dS hS (fv := .ref 273) rfl rfl (zd hS)
theorem ud (hS : aV S) : hK S 2 "OverlayNode" gc := ⟨.ref (S.cadr 0), by rw [hS.K, hS.cadr]; rfl, by rw [hS.K, hS.cadr]; rfl, j7 (by rw [hS.K, hS.cadr]; rfl) (by rw [hS.K, hS.cadr]; rfl) (by rw [hS.K]; rfl) (kR hS)⟩
noncomputable def mV : Gn := ⟨["OverlayNode"], []⟩
noncomputable def mM : List Str := ["self", "number", "front_advance", "rear_advance"]
theorem mN (hS : aV S) : SB S 2 mV mM (bw (Kw S.w.params) 287) eS :=
  (af (ar bP (ig hS) (aa 0) (aa 1))
  (af (ar bW (gM hS) (aa 0) (aE (ud hS) (aC 0) (ae (aa 1) (ae a8 (ae a8 (ae (aa 2) (ae (aa 3) al)))))))
  (af (ar cK (kL hS) (aa 0) bu)
  (af (ar da (km hS) (aa 0) (dP al))
  au))))
theorem nz (hS : aV S) : cU S 3 (.ref 287) eW :=
 dz hS (np := 4) (scope := bc (Kw S.w.params) 287) rfl rfl (Bf (λ _ _ _ _ => rfl)) rfl (mN hS)
theorem tT (hS : aV S) : hK S 2 "OverlayTree" m0 := ⟨.ref (S.cadr 1), by rw [hS.K, hS.cadr]; rfl, by rw [hS.K, hS.cadr]; rfl, j7 (by rw [hS.K, hS.cadr]; rfl) (by rw [hS.K, hS.cadr]; rfl) (by rw [hS.K]; rfl) (kY hS)⟩
noncomputable def kd : Gn := ⟨["OverlayTree"], []⟩
noncomputable def j8 : List Str := ["self", "rules"]
theorem kf (hS : aV S) : SB S 2 kd j8 (bw (Kw S.w.params) 308) gU :=
  (af (ar cL (i7 hS) (aa 0) (BE (tT hS) (aC 0)))
  (af (ar ca (iB hS) (aa 0) oV)
  (af (ar dy (oq hS) (aa 0) (aa 1))
  au)))
theorem kP (hS : aV S) : cU S 3 (.ref 308) gO :=
 dz hS (np := 2) (scope := bc (Kw S.w.params) 308) rfl rfl (vS (λ _ _ => rfl)) rfl (kf hS)
noncomputable def xz : Gn := ⟨[], ["home"]⟩
noncomputable def xn : List Str := ["home", "nodes"]
noncomputable def tJ : Gn := ⟨[], []⟩
theorem xj (hS : aV S) : SB S 0 xz xn (bw (Kw S.w.params) 411) kO :=
  (af (ce (gn [true, false] tJ (by rfl) (aa 1) jx (cu (aq ca (iB hS) (aa 1)) (aq bP (ig hS) (aa 0)))))
  au)
theorem yJ (hS : aV S) : cU S 1 (.ref 411) gv :=
 dz hS (np := 2) (scope := bc (Kw S.w.params) 411) rfl rfl (vS (λ _ _ => rfl)) rfl (xj hS)
theorem nH (hS : aV S) : hK S 1 "of_nodes" gv := dS hS (fv := .ref 411) rfl rfl (yJ hS)
noncomputable def sd : Gn := ⟨["value_in"], []⟩
noncomputable def sD : List Str := ["rules", "overlay", "number"]
theorem sQ (hS : aV S) : SB S 3 sd sD (bw (Kw S.w.params) 385) iu :=
  (af (ce (aE (zg hS) (aC 0) (ae (aa 0) (ae (aq da (km hS) (aa 1)) (ae (aa 2) al)))))
  au)
theorem tM (hS : aV S) : cU S 4 (.ref 385) eA :=
 dz hS (np := 3) (scope := bc (Kw S.w.params) 385) rfl rfl (yC (λ _ _ _ => rfl)) rfl (sQ hS)
theorem ut (hS : aV S) : hK S 4 "overlay_get" eA := dS hS (fv := .ref 385) rfl rfl (tM hS)
noncomputable def te : Gn := ⟨["overlay_get"], []⟩
noncomputable def sx : List Str := ["rules", "overlay"]
theorem rF (hS : aV S) : SB S 4 te sx (bw (Kw S.w.params) 392) iv :=
  (af (ce (y0 (ms (iX hS) (aa 0) (ae (aE (ut hS) (aC 0) (ae (aa 0) (ae (aa 1) (ae (aq dm (kG hS) (aa 0)) al)))) al))))
  au)
theorem tG (hS : aV S) : cU S 5 (.ref 392) cA :=
 dz hS (np := 2) (scope := bc (Kw S.w.params) 392) rfl rfl (vS (λ _ _ => rfl)) rfl (rF hS)
theorem mZ (hS : aV S) : hK S 5 "is_fleeting" cA := dS hS (fv := .ref 392) rfl rfl (tG hS)
noncomputable def xX : Gn := ⟨["drop_node"], []⟩
noncomputable def xI : List Str := ["overlay"]
theorem yr (hS : aV S) : SB S 6 xX xI (bw (Kw S.w.params) 364) hR :=
  (af (bU (bf (aq cK (kL hS) (aa 0)) (aO cx bu)) (af (bn (aE (yj hS) (aC 0) (ae (aq cL (i7 hS) (aq cK (kL hS) (aa 0))) (ae (aq bW (gM hS) (aa 0)) al))))
  (af (bn (Az PySem.F.slot_dict_pop PySem.F.type_dict_pop Fd (aq ca (iB hS) (aq cK (kL hS) (aa 0))) (aq bP (ig hS) (aa 0))))
  (af (ar cK (kL hS) (aa 0) bu)
  au))) au)
  au)
theorem yZ (hS : aV S) : cU S 7 (.ref 364) cF :=
 dz hS (np := 1) (scope := bc (Kw S.w.params) 364) rfl rfl (BR (λ _ => rfl)) rfl (yr hS)
theorem kE (hS : aV S) : hK S 7 "take_out" cF := dS hS (fv := .ref 364) rfl rfl (yZ hS)
noncomputable def wz : Gn := ⟨["close_gap", "of_nodes", "nodes_between", "is_fleeting", "take_out"], []⟩
noncomputable def vF : List Str := ["home", "at", "many", "overlay"]
theorem vD (hS : aV S) : SB S 7 wz vF (bw (Kw S.w.params) 449) jJ :=
  (af (bn (aE (xF hS) (aC 0) (ae (aq cL (i7 hS) (aa 0)) (ae (aa 1) (ae (aa 2) al)))))
  (af (hG 3 (aE (nH hS) (aC 1) (ae (aa 0) (ae (aE (fc hS) (aC 2) (ae (aq cL (i7 hS) (aa 0)) (ae (aa 1) (ae (aa 1) al)))) al))) (af (bU (dC (bf (aq aX (cS hS) (aq bW (gM hS) (aa 3))) (aO eK (aq bx (fu hS) (aq bW (gM hS) (aa 3))))) (dC (bV (aE (mZ hS) (aC 3) (ae (aq dy (oq hS) (aa 0)) (ae (aa 3) al)))) fN)) (af (bn (aE (kE hS) (aC 4) (ae (aa 3) al)))
  au) au)
  au))
  au))
theorem xi (hS : aV S) : cU S 8 (.ref 449) iC :=
 dz hS (np := 3) (scope := bc (Kw S.w.params) 449) rfl rfl (yC (λ _ _ _ => rfl)) rfl (vD hS)
theorem xW (hS : aV S) : hK S 8 "text_went" iC := dS hS (fv := .ref 449) rfl rfl (xi hS)
noncomputable def lb : Gn := ⟨["text_went"], []⟩
noncomputable def ld : List Str := ["self", "begin", "end"]
theorem kN (hS : aV S) : SB S 8 lb ld (bw (Kw S.w.params) 322) dZ :=
  (af (bn (aE (xW hS) (aC 0) (ae (aa 0) (ae (aa 1) (ae (cz kH (aa 2) (aa 1)) al)))))
  au)
theorem lI (hS : aV S) : cU S 9 (.ref 322) cE :=
 dz hS (np := 3) (scope := bc (Kw S.w.params) 322) rfl rfl (yC (λ _ _ _ => rfl)) rfl (kN hS)
theorem kX (hS : aV S) : Hr S 9 3 "deleted" cE := ⟨322, DC hS, by rw [hS.K, hS.cadr]; rfl, by rw [hS.K]; rfl, by rw [hS.K]; rfl, λ k h => by
  rw [hS.flds] at h
  have := List.mem_of_getElem? h
  revert this; decide +kernel, lI hS⟩
noncomputable def po : Gn := ⟨["hand_down_to"], []⟩
noncomputable def pZ : List Str := ["overlay"]
theorem pT (hS : aV S) : SB S 2 po pZ (bw (Kw S.w.params) 350) lm :=
  (af (bn (aE (jv hS) (aC 0) (ae (aq bW (gM hS) (aa 0)) al)))
  (af (ce (aq aX (cS hS) (aq bW (gM hS) (aa 0))))
  au))
theorem qy (hS : aV S) : cU S 3 (.ref 350) cN :=
 dz hS (np := 1) (scope := bc (Kw S.w.params) 350) rfl rfl (BR (λ _ => rfl)) rfl (pT hS)
theorem ln (hS : aV S) : hK S 3 "overlay_begin" cN := dS hS (fv := .ref 350) rfl rfl (qy hS)
noncomputable def sM : Gn := ⟨["hand_down_to"], []⟩
noncomputable def th : List Str := ["overlay"]
theorem ss (hS : aV S) : SB S 2 sM th (bw (Kw S.w.params) 357) nl :=
  (af (bn (aE (jv hS) (aC 0) (ae (aq bW (gM hS) (aa 0)) al)))
  (af (ce (aq bx (fu hS) (aq bW (gM hS) (aa 0))))
  au))
theorem uf (hS : aV S) : cU S 3 (.ref 357) dc :=
 dz hS (np := 1) (scope := bc (Kw S.w.params) 357) rfl rfl (BR (λ _ => rfl)) rfl (ss hS)
theorem ni (hS : aV S) : hK S 3 "overlay_end" dc := dS hS (fv := .ref 357) rfl rfl (uf hS)
noncomputable def F7 : Gn := ⟨["take_out", "min", "max", "put_node"], []⟩
noncomputable def E4 : List Str := ["overlay", "home", "begin", "end"]
theorem E7 (hS : aV S) : SB S 7 F7 E4 (bw (Kw S.w.params) 371) zZ :=
  (af (bn (aE (kE hS) (aC 0) (ae (aa 0) al)))
  (af (ar aX (cS hS) (aq bW (gM hS) (aa 0)) (bT (we hS) (aC 1) (ae (aa 2) (ae (aa 3) al))))
  (af (ar bx (fu hS) (aq bW (gM hS) (aa 0)) (bT (mE hS) (aC 2) (ae (aa 2) (ae (aa 3) al))))
  (af (ar cK (kL hS) (aa 0) (aa 1))
  (af (ki (aq ca (iB hS) (aa 1)) (aq bP (ig hS) (aa 0)) (aa 0))
  (af (bn (aE (yE hS) (aC 3) (ae (aq cL (i7 hS) (aa 1)) (ae (aq bW (gM hS) (aa 0)) al))))
  au))))))
theorem Gr (hS : aV S) : cU S 8 (.ref 371) qd :=
 dz hS (np := 4) (scope := bc (Kw S.w.params) 371) rfl rfl (Bf (λ _ _ _ _ => rfl)) rfl (E7 hS)
theorem ED (hS : aV S) : hK S 8 "lay" qd := dS hS (fv := .ref 371) rfl rfl (Gr hS)
theorem A7 (hS : aV S) : hK S 4 "Overlay" kA := ⟨.ref (S.cadr 2), by rw [hS.K, hS.cadr]; rfl, by rw [hS.K, hS.cadr]; rfl, j7 (by rw [hS.K, hS.cadr]; rfl) (by rw [hS.K, hS.cadr]; rfl) (by rw [hS.K]; rfl) (nz hS)⟩
noncomputable def qM : Gn := ⟨["Overlay", "lay"], []⟩
noncomputable def qF : List Str := ["home", "number", "begin", "end", "front_advance", "rear_advance", "found"]
theorem qN (hS : aV S) : SB S 8 qM qF (bw (Kw S.w.params) 378) lR :=
  (af (aU 6 (aE (A7 hS) (aC 0) (ae (aa 1) (ae (aa 4) (ae (aa 5) al)))))
  (af (bn (aE (ED hS) (aC 1) (ae (aa 6) (ae (aa 0) (ae (aa 2) (ae (aa 3) al))))))
  (af (ce (aa 6))
  au)))
theorem rK (hS : aV S) : cU S 9 (.ref 378) eI :=
 dz hS (np := 6) (scope := bc (Kw S.w.params) 378) rfl rfl (HG (λ _ _ _ _ _ _ => rfl)) rfl (qN hS)
theorem rR (hS : aV S) : hK S 9 "made_overlay" eI := dS hS (fv := .ref 378) rfl rfl (rK hS)
noncomputable def pC : Gn := ⟨["lay", "is_fleeting", "take_out"], []⟩
noncomputable def pM : List Str := ["overlay", "home", "begin", "end"]
theorem qa (hS : aV S) : SB S 8 pC pM (bw (Kw S.w.params) 399) gi :=
  (af (bn (aE (ED hS) (aC 0) (ae (aa 0) (ae (aa 1) (ae (aa 2) (ae (aa 3) al))))))
  (af (bU (dC (bf (aa 2) (aO eK (aa 3))) (dC (bV (aE (mZ hS) (aC 1) (ae (aq dy (oq hS) (aa 1)) (ae (aa 0) al)))) fN)) (af (bn (aE (kE hS) (aC 2) (ae (aa 0) al)))
  au) au)
  au))
theorem qJ (hS : aV S) : cU S 9 (.ref 399) dK :=
 dz hS (np := 4) (scope := bc (Kw S.w.params) 399) rfl rfl (Bf (λ _ _ _ _ => rfl)) rfl (qa hS)
theorem qC (hS : aV S) : hK S 9 "moved_overlay" dK := dS hS (fv := .ref 399) rfl rfl (qJ hS)
noncomputable def rs : Gn := ⟨["holds_pair", "plist_with", "overlay_begin", "overlay_end", "take_out"], []⟩
noncomputable def sB : List Str := ["rules", "overlay", "number", "value", "changed"]
theorem sq (hS : aV S) : SB S 7 rs sB (bw (Kw S.w.params) 406) mY :=
  (af (aU 4 (y0 (aE (vU hS) (aC 0) (ae (aq da (km hS) (aa 1)) (ae (aa 2) (ae (aa 3) al))))))
  (af (bU (bV (aa 4)) (af (ar da (km hS) (aa 1) (aE (vL hS) (aC 1) (ae (aq da (km hS) (aa 1)) (ae (aa 2) (ae (aa 3) al)))))
  au) au)
  (af (bU (dC (bf (aa 2) (aO eK (aq dm (kG hS) (aa 0)))) (dC (nC (bV (ms (iX hS) (aa 0) (ae (aa 3) al)))) (dC (bf (aq cK (kL hS) (aa 1)) (aO cx bu)) fN))) (af (bU (bf (aE (ln hS) (aC 2) (ae (aa 1) al)) (aO eK (aE (ni hS) (aC 3) (ae (aa 1) al)))) (af (bn (aE (kE hS) (aC 4) (ae (aa 1) al)))
  au) au)
  au) au)
  (af (ce (aa 4))
  au))))
theorem tL (hS : aV S) : cU S 8 (.ref 406) ew :=
 dz hS (np := 4) (scope := bc (Kw S.w.params) 406) rfl rfl (Bf (λ _ _ _ _ => rfl)) rfl (sq hS)
theorem up (hS : aV S) : hK S 8 "overlay_put" ew := dS hS (fv := .ref 406) rfl rfl (tL hS)
noncomputable def sN : Gn := ⟨["of_nodes", "nodes_between"], ["at"]⟩
noncomputable def rH : List Str := ["home", "at"]
noncomputable def pf : Gn := ⟨[], []⟩
theorem sb (hS : aV S) : SB S 2 sN rH (bw (Kw S.w.params) 416) im :=
  (af (ce (aE (nH hS) (aC 0) (ae (aa 0) (ae (gn [false, true] pf (by rfl) (aE (fc hS) (aC 1) (ae (aq cL (i7 hS) (aa 0)) (ae (aa 1) (ae (aa 1) al)))) (gw (bf (aq aX (cS hS) (aa 0)) (eG oX (aa 2) (aO fV (aq bx (fu hS) (aa 0)))))) (aa 0)) al))))
  au)
theorem tK (hS : aV S) : cU S 3 (.ref 416) ey :=
 dz hS (np := 2) (scope := bc (Kw S.w.params) 416) rfl rfl (vS (λ _ _ => rfl)) rfl (sb hS)
theorem tu (hS : aV S) : hK S 3 "overlays_at" ey := dS hS (fv := .ref 416) rfl rfl (tK hS)
noncomputable def BC : Gn := ⟨[], []⟩
noncomputable def BM : List Str := ["node", "begin", "end", "is_at_end"]
theorem Ca (hS : aV S) : SB S 0 BC BM (bw (Kw S.w.params) 423) zU :=
  (af (bU (bf (aq aX (cS hS) (aa 0)) (aO fV (aq bx (fu hS) (aa 0)))) (af (ce (ph (dX (aq aX (cS hS) (aa 0)) (aO fV (aa 2))) (iG (dX (aq bx (fu hS) (aa 0)) (aO qt (aa 1))))))
  au) au)
  (af (ce (wU (dX (aq aX (cS hS) (aa 0)) (aO eK (aa 1))) (wU (dX (aa 1) (eG fV (aq aX (cS hS) (aa 0)) (aO fV (aa 2)))) (iG (ph (dX (aq aX (cS hS) (aa 0)) (aO eK (aa 2))) (iG (aa 3)))))))
  au))
theorem DX (hS : aV S) : cU S 1 (.ref 423) oW :=
 dz hS (np := 4) (scope := bc (Kw S.w.params) 423) rfl rfl (Bf (λ _ _ _ _ => rfl)) rfl (Ca hS)
theorem Dr (hS : aV S) : hK S 1 "is_in" oW := dS hS (fv := .ref 423) rfl rfl (DX hS)
noncomputable def sf : Gn := ⟨["nodes_between", "of_nodes"], ["begin", "end", "last"]⟩
noncomputable def rC : List Str := ["home", "begin", "end", "last", "found"]
noncomputable def pG : Gn := ⟨["is_in"], []⟩
theorem sT (hS : aV S) : SB S 2 sf rC (bw (Kw S.w.params) 428) iw :=
  (af (tF 4 [false, true, true, true, false] pG (by rfl) (aE (fc hS) (aC 0) (ae (aq cL (i7 hS) (aa 0)) (ae (aa 1) (ae (aa 2) al)))) (gw (bV (aE (Dr hS) (aC 0) (ae (aa 0) (ae (aa 2) (ae (aa 3) (ae (dX (aa 3) (aO eK (aa 4))) al))))))) (aa 0))
  (af (ce (aE (nH hS) (aC 1) (ae (aa 0) (ae (aa 4) al))))
  au))
theorem tW (hS : aV S) : cU S 3 (.ref 428) ez :=
 dz hS (np := 4) (scope := bc (Kw S.w.params) 428) rfl rfl (Bf (λ _ _ _ _ => rfl)) rfl (sT hS)
theorem ua (hS : aV S) : hK S 3 "overlays_in" ez := dS hS (fv := .ref 428) rfl rfl (tW hS)
noncomputable def kS : Gn := ⟨["nodes_between"], []⟩
noncomputable def lj : List Str := ["home", "at", "last", "found", "node", "place"]
theorem lf (hS : aV S) : SB S 2 kS lj (bw (Kw S.w.params) 435) d0 :=
  (af (aU 3 (aa 2))
  (af (hG 4 (aE (fc hS) (aC 0) (ae (aq cL (i7 hS) (aa 0)) (ae (aa 1) (ae (aa 2) al)))) (af (hG 5 (gt (ae (aq aX (cS hS) (aa 4)) (ae (aq bx (fu hS) (aa 4)) al))) (af (bU (bf (aa 1) (eG fV (aa 5) (aO fV (aa 3)))) (af (aU 3 (aa 5))
  au) au)
  au))
  au))
  (af (ce (aa 3))
  au)))
theorem lN (hS : aV S) : cU S 3 (.ref 435) cD :=
 dz hS (np := 3) (scope := bc (Kw S.w.params) 435) rfl rfl (yC (λ _ _ _ => rfl)) rfl (lf hS)
theorem lK (hS : aV S) : hK S 3 "next_overlay_change" cD := dS hS (fv := .ref 435) rfl rfl (lN hS)
noncomputable def jm : Gn := ⟨["nodes_between"], []⟩
noncomputable def jo : List Str := ["home", "at", "first", "found", "node", "place"]
theorem jw (hS : aV S) : SB S 2 jm jo (bw (Kw S.w.params) 442) dw :=
  (af (aU 3 (aa 2))
  (af (hG 4 (aE (fc hS) (aC 0) (ae (aq cL (i7 hS) (aa 0)) (ae (aa 2) (ae (aa 1) al)))) (af (hG 5 (gt (ae (aq aX (cS hS) (aa 4)) (ae (aq bx (fu hS) (aa 4)) al))) (af (bU (bf (aa 3) (eG fV (aa 5) (aO fV (aa 1)))) (af (aU 3 (aa 5))
  au) au)
  au))
  au))
  (af (ce (aa 3))
  au)))
theorem jH (hS : aV S) : cU S 3 (.ref 442) bY :=
 dz hS (np := 3) (scope := bc (Kw S.w.params) 442) rfl rfl (yC (λ _ _ _ => rfl)) rfl (jw hS)
theorem jI (hS : aV S) : hK S 3 "previous_overlay_change" bY := dS hS (fv := .ref 442) rfl rfl (jH hS)
noncomputable def lB : Gn := ⟨[], []⟩
noncomputable def lF : List Str := ["self", "first"]
theorem lM (hS : aV S) : SB S 0 lB lF (bw (Kw S.w.params) 464) iJ :=
  (af (ar lZ (w9 hS) (aa 0) (aa 1))
  (af (ar jB (sO hS) (aa 0) bu)
  (af (ar kW (vi hS) (aa 0) cY)
  (af (ar pV (Bb hS) (aa 0) oV)
  au))))
theorem mw (hS : aV S) : cU S 1 (.ref 464) iD :=
 dz hS (np := 2) (scope := bc (Kw S.w.params) 464) rfl rfl (vS (λ _ _ => rfl)) rfl (lM hS)
noncomputable def uY : Gn := ⟨["len"], []⟩
noncomputable def vm : List Str := ["deck", "many"]
theorem u9 (hS : aV S) : SB S 0 uY vm (bw (Kw S.w.params) 527) gB :=
  (af (ki (aa 0) a8 (cz eT (cu (aa 0) a8) a8))
  (af (bU (bf (cu (aa 0) a8) (aO oX (bT (mh hS) (aC 0) (ae (cu (aa 0) a8) al)))) (af (ce (cz Bt (cu (cu (aa 0) a8) (cz kH (cu (aa 0) a8) a8)) (aa 1)))
  au) au)
  (af (ce (cz Bt (cz Ft (cz eT (cz eT (cz vW (cz vW (cu (aa 0) a8) (cu (aa 0) a8)) a8) (cz vW a8 (cu (aa 0) a8))) (cz vW a8 (bT (mh hS) (aC 0) (ae (cu (aa 0) a8) al)))) a8) (aa 1)))
  au)))
theorem xr (hS : aV S) : cU S 1 (.ref 527) bd :=
 dz hS (np := 2) (scope := bc (Kw S.w.params) 527) rfl rfl (vS (λ _ _ => rfl)) rfl (u9 hS)
theorem cB (hS : aV S) : hK S 1 "_law_draw" bd := dS hS (fv := .ref 527) rfl rfl (xr hS)
noncomputable def tv : Gn := ⟨["len", "_law_draw", "made_overlay", "min", "overlay_put"], []⟩
noncomputable def tU : List Str := ["deck", "home", "own", "overlays", "number", "begin", "many", "way"]
theorem ur (hS : aV S) : SB S 9 tv tU (bw (Kw S.w.params) 534) ja :=
  (af (fJ [4, 5, 6, 7] (gt (ae (bT (mh hS) (aC 0) (ae (aa 3) al)) (ae (aE (cB hS) (aC 1) (ae (aa 0) (ae a8 al))) (ae (aE (cB hS) (aC 1) (ae (aa 0) (ae a8 al))) (ae (aE (cB hS) (aC 1) (ae (aa 0) (ae a8 al))) al))))))
  (af (bn (hU PySem.F.slot_list_append PySem.F.type_list_append kx (aa 3) (aE (rR hS) (aC 2) (ae (aa 1) (ae (aa 4) (ae (aa 5) (ae (bT (we hS) (aC 3) (ae a8 (ae (cz eT (aa 5) (aa 6)) al))) (ae (dX (aE (cB hS) (aC 1) (ae (aa 0) (ae a8 al))) (aO eK a8)) (ae (dX (aa 7) (aO eK a8)) al)))))))))
  (af (ki (aa 2) (aa 4) (dP (ae (aa 5) (ae (bT (we hS) (aC 3) (ae a8 (ae (cz eT (aa 5) (aa 6)) al))) (ae (dX (aa 7) (aO eK a8)) al)))))
  (af (bU (bf (aa 7) (aO eK a8)) (af (bn (aE (up hS) (aC 4) (ae (aq dy (oq hS) (aa 1)) (ae (cu (aa 3) (aa 4)) (ae a8 (ae cY al))))))
  (af (bU (bf (aa 6) (aO eK a8)) (af (zt (aa 2) (aa 4))
  au) au)
  au)) au)
  au))))
theorem vu (hS : aV S) : cU S 10 (.ref 534) eV :=
 dz hS (np := 4) (scope := bc (Kw S.w.params) 534) rfl rfl (Bf (λ _ _ _ _ => rfl)) rfl (ur hS)
theorem wI (hS : aV S) : hK S 10 "_law_fresh" eV := dS hS (fv := .ref 534) rfl rfl (vu hS)
noncomputable def ve : Gn := ⟨["_law_draw", "sorted"], ["at", "many"]⟩
noncomputable def wq : List Str := ["deck", "home", "own", "at", "many", "number", "begin", "end", "my_is_fleeting"]
noncomputable def rB : Gn := ⟨["max"], []⟩
theorem uX (hS : aV S) : SB S 9 ve wq (bw (Kw S.w.params) 539) jL :=
  (af (fJ [3, 4] (gt (ae (aE (cB hS) (aC 0) (ae (aa 0) (ae a8 al))) (ae (cz eT a8 (aE (cB hS) (aC 0) (ae (aa 0) (ae a8 al)))) al))))
  (af (bn (ms (kX hS) (aa 1) (ae (aa 3) (ae (cz eT (aa 3) (aa 4)) al))))
  (af (hG 5 (bT (hV hS) (aC 1) (ae (aa 2) al)) (af (fJ [6, 7, 8] (cu (aa 2) (aa 5)))
  (af (fJ [6, 7] (gn [false, false, false, true, true, false, false, false, false] rB (by rfl) (gt (ae (aa 6) (ae (aa 7) al))) jx (lz (bf (aa 0) (aO oX (aa 4))) (aa 0) (bT (mE hS) (aC 0) (ae (aa 4) (ae (cz kH (aa 0) (aa 5)) al))))))
  (af (ki (aa 2) (aa 5) (dP (ae (aa 6) (ae (aa 7) (ae (aa 8) al)))))
  (af (bU (dC (bf (aa 6) (eG eK (aa 7) (aO eK (aa 3)))) (dC (bV (aa 8)) fN)) (af (zt (aa 2) (aa 5))
  au) au)
  au)))))
  au)))
theorem xA (hS : aV S) : cU S 10 (.ref 539) gE :=
 dz hS (np := 3) (scope := bc (Kw S.w.params) 539) rfl rfl (yC (λ _ _ _ => rfl)) rfl (uX hS)
theorem xb (hS : aV S) : hK S 10 "_law_gone" gE := dS hS (fv := .ref 539) rfl rfl (xA hS)
noncomputable def tS : Gn := ⟨["_law_draw", "len", "moved_overlay"], []⟩
noncomputable def ug : List Str := ["deck", "home", "own", "overlays", "number", "begin", "many", "my_is_fleeting"]
theorem tV (hS : aV S) : SB S 9 tS ug (bw (Kw S.w.params) 546) i8 :=
  (af (fJ [4, 5, 6] (gt (ae (aE (cB hS) (aC 0) (ae (aa 0) (ae (bT (mh hS) (aC 1) (ae (aa 3) al)) al))) (ae (aE (cB hS) (aC 0) (ae (aa 0) (ae a8 al))) (ae (aE (cB hS) (aC 0) (ae (aa 0) (ae a8 al))) al)))))
  (af (aU 7 (dX (aq da (km hS) (cu (aa 3) (aa 4))) (aO uE (dP al))))
  (af (bn (aE (qC hS) (aC 2) (ae (cu (aa 3) (aa 4)) (ae (aa 1) (ae (aa 5) (ae (cz eT (aa 5) (aa 6)) al))))))
  (af (ki (aa 2) (aa 4) (dP (ae (aa 5) (ae (cz eT (aa 5) (aa 6)) (ae (aa 7) al)))))
  (af (bU (dC (bf (aa 6) (aO eK a8)) (dC (bV (aa 7)) fN)) (af (zt (aa 2) (aa 4))
  au) au)
  au)))))
theorem wy (hS : aV S) : cU S 10 (.ref 546) eZ :=
 dz hS (np := 4) (scope := bc (Kw S.w.params) 546) rfl rfl (Bf (λ _ _ _ _ => rfl)) rfl (tV hS)
theorem ww (hS : aV S) : hK S 10 "_law_moved" eZ := dS hS (fv := .ref 546) rfl rfl (wy hS)
noncomputable def qR : Gn := ⟨["range"], ["row"]⟩
noncomputable def qz : List Str := ["row", "begin", "end", "last"]
noncomputable def nT : Gn := ⟨[], []⟩
theorem qL (hS : aV S) : SB S 0 qR qz (bw (Kw S.w.params) 551) eN :=
  (af (bU (bf (cu (aa 0) a8) (aO fV (cu (aa 0) a8))) (af (ce (wU (dX (gn [true, false, false, false] nT (by rfl) (bT (so hS) (aC 0) (ae (aa 1) (ae (aa 2) al))) (gw (bf (cu (aa 1) a8) (eG oX (aa 0) (aO fV (cu (aa 1) a8))))) (aa 0)) (aO uE (dP al))) (iG (dX (cu (aa 0) a8) (eG fV (aa 1) (eG eK (aa 2) (aO fV (cu (aa 0) a8))))))))
  au) au)
  (af (ce (wU (dX (cu (aa 0) a8) (aO eK (aa 1))) (wU (dX (aa 1) (eG fV (cu (aa 0) a8) (aO fV (aa 2)))) (iG (dX (cu (aa 0) a8) (eG eK (aa 2) (aO eK (aa 3))))))))
  au))
theorem si (hS : aV S) : cU S 1 (.ref 551) dF :=
 dz hS (np := 4) (scope := bc (Kw S.w.params) 551) rfl rfl (Bf (λ _ _ _ _ => rfl)) rfl (qL hS)
theorem sX (hS : aV S) : hK S 1 "_law_touches" dF := dS hS (fv := .ref 551) rfl rfl (si hS)
theorem tE (hS : aV S) : hK S 4 "OverlayHome" jW := ⟨.ref (S.cadr 3), by rw [hS.K, hS.cadr]; rfl, by rw [hS.K, hS.cadr]; rfl, j7 (by rw [hS.K, hS.cadr]; rfl) (by rw [hS.K, hS.cadr]; rfl) (by rw [hS.K]; rfl) (kP hS)⟩
theorem xo (hS : aV S) : hK S 3 "PropRules" lS := ⟨.ref (S.cadr 4), by rw [hS.K, hS.cadr]; rfl, by rw [hS.K, hS.cadr]; rfl, j7 (by rw [hS.K, hS.cadr]; rfl) (by rw [hS.K, hS.cadr]; rfl) (by rw [hS.K]; rfl) (ml hS)⟩
theorem yu (hS : aV S) : hK S 2 "PlainLisp" mz := ⟨.ref (S.cadr 5), by rw [hS.K, hS.cadr]; rfl, by rw [hS.K, hS.cadr]; rfl, j7 (by rw [hS.K, hS.cadr]; rfl) (by rw [hS.K, hS.cadr]; rfl) (by rw [hS.K]; rfl) (mw hS)⟩
noncomputable def zu : Gn := ⟨["OverlayHome", "PropRules", "PlainLisp", "range", "_law_draw", "_law_fresh", "_law_gone", "_law_moved", "sorted", "overlay_begin", "overlay_end", "overlays_at", "overlays_in", "next_overlay_change", "previous_overlay_change", "min", "max"], ["own", "at", "begin", "end", "last"]⟩
noncomputable def nF : List Str := ["script", "deck", "home", "own", "overlays", "my_turn", "number", "at", "begin", "end", "last", "places", "later", "earlier"]
noncomputable def BJ : Gn := ⟨[], []⟩
noncomputable def BF : Gn := ⟨[], []⟩
noncomputable def CP : Gn := ⟨[], []⟩
noncomputable def B8 : Gn := ⟨["_law_touches"], []⟩
noncomputable def C4 : Gn := ⟨[], []⟩
noncomputable def CA : Gn := ⟨[], []⟩
noncomputable def BV : Gn := ⟨["abs"], []⟩
theorem FZ (hS : aV S) : SB S 10 zu nF (bw (Kw S.w.params) 556) BQ :=
  (af (aU 1 (dP (ae (gn [false, false, false, false, false, false, false, false, false, false, false, false, false, false] BV (by rfl) (vd (aa 0)) jx (bT (F8 hS) (aC 0) (ae (aa 0) al))) (ae a8 al))))
  (af (fJ [2, 3, 4] (gt (ae (aE (tE hS) (aC 0) (ae (aE (xo hS) (aC 1) (ae (aE (yu hS) (aC 2) (ae a8 al)) al)) al)) (ae oV (ae (dP al) al)))))
  (af (hG 5 (bT (so hS) (aC 3) (ae (cz eT a8 (aE (cB hS) (aC 4) (ae (aa 1) (ae a8 al)))) al)) (af (bn (aE (wI hS) (aC 5) (ae (aa 1) (ae (aa 2) (ae (aa 3) (ae (aa 4) al))))))
  au))
  (af (bU (bf (aE (cB hS) (aC 4) (ae (aa 1) (ae a8 al))) (aO eK a8)) (af (bn (aE (xb hS) (aC 6) (ae (aa 1) (ae (aa 2) (ae (aa 3) al)))))
  au) au)
  (af (bU (bf (aE (cB hS) (aC 4) (ae (aa 1) (ae a8 al))) (aO eK a8)) (af (bn (aE (ww hS) (aC 7) (ae (aa 1) (ae (aa 2) (ae (aa 3) (ae (aa 4) al))))))
  au) au)
  (af (bU (bf (bT (hV hS) (aC 8) (ae (aq ca (iB hS) (aa 2)) al)) (aO uE (bT (hV hS) (aC 8) (ae (aa 3) al)))) (af (ce cY)
  au) au)
  (af (hG 6 (aa 3) (af (bU (bf (dP (ae (aE (ln hS) (aC 9) (ae (cu (aa 4) (aa 6)) al)) (ae (aE (ni hS) (aC 10) (ae (cu (aa 4) (aa 6)) al)) al))) (aO uE (vd (cu (aa 3) (aa 6))))) (af (ce cY)
  au) au)
  au))
  (af (fJ [7, 8] (gt (ae (aE (cB hS) (aC 4) (ae (aa 1) (ae a8 al))) (ae (aE (cB hS) (aC 4) (ae (aa 1) (ae a8 al))) al))))
  (af (fJ [9, 10] (gt (ae (cz eT (aa 8) (aE (cB hS) (aC 4) (ae (aa 1) (ae (cz kH a8 (aa 8)) al)))) (ae (cz kH a8 (aE (cB hS) (aC 4) (ae (aa 1) (ae a8 al)))) al))))
  (af (bU (bf (bT (hV hS) (aC 8) (ae (gn [false, false, false, false, false, false, false, false, false, false, false, false, false, false] C4 (by rfl) (aE (tu hS) (aC 11) (ae (aa 2) (ae (aa 7) al))) jx (aq bP (ig hS) (aa 0))) al)) (aO uE (gn [false, false, false, true, false, false, false, true, false, false, false, false, false, false] CA (by rfl) (bT (hV hS) (aC 8) (ae (aa 3) al)) (gw (bf (cu (cu (aa 4) (aa 0)) a8) (eG oX (aa 8) (aO fV (cu (cu (aa 4) (aa 0)) a8))))) (aa 0)))) (af (ce cY)
  au) au)
  (af (bU (bf (bT (hV hS) (aC 8) (ae (gn [false, false, false, false, false, false, false, false, false, false, false, false, false, false] CP (by rfl) (aE (ua hS) (aC 12) (ae (aa 2) (ae (aa 8) (ae (aa 9) (ae (aa 10) al))))) jx (aq bP (ig hS) (aa 0))) al)) (aO uE (gn [false, false, false, true, false, false, false, false, true, true, true, false, false, false] B8 (by rfl) (bT (hV hS) (aC 8) (ae (aa 3) al)) (gw (bV (aE (sX hS) (aC 0) (ae (cu (aa 4) (aa 0)) (ae (aa 9) (ae (aa 10) (ae (aa 11) al))))))) (aa 0)))) (af (ce cY)
  au) au)
  (af (aU 11 (dP al))
  (af (hG 6 (aa 3) (af (bn (hU PySem.F.slot_list_extend PySem.F.type_list_extend CX (aa 11) (vd (cu (aa 3) (aa 6)))))
  au))
  (af (fJ [12, 13] (gt (ae (gn [false, false, false, false, false, false, false, true, false, false, false, false, false, false] BF (by rfl) (aa 11) (gw (bf (aa 8) (eG fV (aa 0) (aO fV a8)))) (aa 0)) (ae (gn [false, false, false, false, false, false, false, true, false, false, false, false, false, false] BJ (by rfl) (aa 11) (gw (bf a8 (eG fV (aa 0) (aO fV (aa 8))))) (aa 0)) al))))
  (af (ce (dX (dP (ae (aE (lK hS) (aC 13) (ae (aa 2) (ae (aa 7) (ae a8 al)))) (ae (aE (jI hS) (aC 14) (ae (aa 2) (ae (aa 7) (ae a8 al)))) al))) (aO eK (dP (ae (bT (Dm hS) (aC 15) (ae (cz yX (aa 12) (dP (ae a8 al))) al)) (ae (bT (DS hS) (aC 16) (ae (cz yX (aa 13) (dP (ae a8 al))) al)) al))))))
  au)))))))))))))))
end
end
section
open PySem
section
inductive FE where
 | var (k : Nat) | add (a b : FE) | mx (a b : FE) | lit (k : Int)
 deriving Inhabited
noncomputable def FE.ev (v : Nat -> Int) : FE -> Int
 | .var k => v k
 | .add a b => a.ev v + b.ev v
 | .mx a b => if b.ev v > a.ev v then b.ev v else a.ev v
 | .lit k => k
inductive FV where
 | none | bool (b : Bool) | int (e : FE) | ref (i : Nat) | tup (vs : List FV) | opq (k : Nat)
 deriving Inhabited
inductive FO where
 | inst (c : Nat) (fs : List FV) | list (vs : List FV) | flist (vs : List FV)
noncomputable abbrev FS := List FO
abbrev FM (α : Type) := FS -> Option (α × FS)
noncomputable abbrev aN := List (Option FV)
inductive FF | next | ret (v : FV)
noncomputable def fi {α β : Type} (m : Option (α × FS)) (f : α -> FS -> Option (β × FS)) : Option (β × FS) := match m with
 | some (a, Z) => f a Z
 | none => none
theorem AQ {α β : Type} {m : Option (α × FS)} {f : α -> FS -> Option (β × FS)} {r : β × FS} (h : fi m f = some r) : ∃ a Z, m = some (a, Z) /\ f a Z = some r := by
 unfold fi at h
 split at h
 ·exact lW _ _ rfl h
 ·exact bG h
section
variable (ρ : List Nat) (v : Nat -> Int) (o : Nat -> PV)
inductive ix : FV -> PV -> Prop
 | none : ix .none .none
 | bool (b) : ix (.bool b) (.bool b)
 | int (e : FE) (k : Int) : k = e.ev v -> ix (.int e) (.int k)
 | ref (i a) : ρ[i]? = some a -> ix (.ref i) (.ref a)
 | tup (vs : List FV) (ps : List PV) : vs.length = ps.length -> (∀ (k : Nat) x p, vs[k]? = some x -> ps[k]? = some p -> ix x p) -> ix (.tup vs) (.tup ps)
 | opq (k) : ix (.opq k) (o k)
def cV (vs : List FV) (ps : List PV) : Prop := vs.length = ps.length /\ ∀ (k : Nat) x p, vs[k]? = some x -> ps[k]? = some p -> ix ρ v o x p
def ya : FO -> ee -> Prop
 | .inst c fs, .inst c' gs => c = c' /\ cV ρ v o fs gs
 | .list vs, .list ws => cV ρ v o vs ws
 | .flist vs, .flist ws => cV ρ v o vs ws
 | _, _ => False
structure gb (fs : FS) (Z : St) : Prop where
 len : ρ.length = fs.length
 nodup : ρ.Nodup
 lt : ∀ a ∈ ρ, a < Z.next
 obj : ∀ (i : Nat) (a : Nat) (x : FO), ρ[i]? = some a -> fs[i]? = some x -> ya ρ v o x (Z.objs a)
def yB (ffr : aN) (fr : ag) : Prop := ffr.length = fr.length /\ ∀ (k : Nat) x, ffr[k]? = some (some x) -> ∃ p, fr[k]? = some (some p) /\ ix ρ v o x p
end
structure mS (ρ : List Nat) (Z : St) (ρ' : List Nat) (Z' : St) : Prop where
 pre : ∀ (i a : Nat), ρ[i]? = some a -> ρ'[i]? = some a
 next : Z.next <= Z'.next
 old : ∀ a, a < Z.next -> a ∉ ρ -> Z'.objs a = Z.objs a
 new : ∀ a ∈ ρ', a ∈ ρ \/ Z.next <= a
variable {ρ ρ' ρ'' : List Nat} {v : Nat -> Int} {o : Nat -> PV} {Z Z' Z'' : St}
theorem mS.refl : mS ρ Z ρ Z := ⟨λ _ _ h => h, Nat.le_refl _, λ _ _ _ => rfl, λ _ h => .inl h⟩
theorem mS.trans (a : mS ρ Z ρ' Z') (b : mS ρ' Z' ρ'' Z'') : mS ρ Z ρ'' Z'' :=
 ⟨λ i x h => b.pre i x (a.pre i x h), Nat.le_trans a.next b.next, λ x h1 h2 => by
  rw [b.old x (Nat.lt_of_lt_of_le h1 a.next) λ q => ?_]
  ·exact a.old x h1 h2
  ·rcases a.new x q with q | q
   ·exact h2 q
   ·exact absurd h1 (Nat.not_lt.mpr q),
  λ x h => by
   rcases b.new x h with q | q
   ·exact a.new x q
   ·exact .inr (Nat.le_trans a.next q)⟩
theorem ix.mono (hp : ∀ (i a : Nat), ρ[i]? = some a -> ρ'[i]? = some a) {x : FV} {p : PV} (h : ix ρ v o x p) : ix ρ' v o x p := by
 induction h with
 | none => exact .none
 | bool b => exact .bool b
 | int e k h => exact .int e k h
 | ref i a h => exact .ref i a (hp _ _ h)
 | tup vs ps h1 h2 ih => exact .tup vs ps h1 ih
 | opq k => exact .opq k
theorem cV.mono (hp : ∀ (i a : Nat), ρ[i]? = some a -> ρ'[i]? = some a) {x : List FV} {p : List PV} (h : cV ρ v o x p) : cV ρ' v o x p :=
 ⟨h.1, λ k a b c e => (h.2 k a b c e).mono hp⟩
theorem ya.mono (hp : ∀ (i a : Nat), ρ[i]? = some a -> ρ'[i]? = some a) {x : FO} {p : ee} (h : ya ρ v o x p) : ya ρ' v o x p := by
 cases x <;> cases p <;> first | exact h.elim | exact ⟨h.1, cV.mono hp h.2⟩ | exact cV.mono hp h
theorem yB.mono (hp : ∀ (i a : Nat), ρ[i]? = some a -> ρ'[i]? = some a) {x : aN} {p : ag} (h : yB ρ v o x p) : yB ρ' v o x p :=
 ⟨h.1, λ k a e => let ⟨q, e', hq⟩ := h.2 k a e; ⟨q, e', hq.mono hp⟩⟩
theorem cV.nil : cV ρ v o [] [] := ⟨rfl, λ _ _ _ h => by simp at h⟩
theorem cV.cons {x p xs ps} (h : ix ρ v o x p) (t : cV ρ v o xs ps) : cV ρ v o (x :: xs) (p :: ps) := ⟨by simp [t.1], λ k a b e1 e2 => by
 cases k with
 | zero => simp at e1 e2; subst e1 e2; exact h
 | succ k => simp at e1 e2; exact t.2 k a b e1 e2⟩
theorem cV.get {xs ps} (h : cV ρ v o xs ps) {k : Nat} {x} (e : xs[k]? = some x) : ∃ p, ps[k]? = some p /\ ix ρ v o x p := by
 have hk : k < ps.length := by rw [<- h.1]; exact (List.getElem?_eq_some_iff.mp e).1
 exact cC (ps[k]) (by simp [hk]) (h.2 k x _ e (by simp [hk]))
theorem cV.set {xs ps} (h : cV ρ v o xs ps) {x p} (hx : ix ρ v o x p) (k : Nat) : cV ρ v o (xs.set k x) (ps.set k p) := by
 refine ⟨by simp [h.1], λ j a b e1 e2 => ?_⟩
 rw [List.getElem?_set] at e1 e2
 by_cases q : k = j
 ·rw [if_pos q] at e1 e2
  by_cases q2 : k < xs.length
  ·rw [if_pos q2] at e1; rw [if_pos (h.1 ▸ q2)] at e2; cases ej e1; cases ej e2; exact hx
  ·rw [if_neg q2] at e1; exact bG e1
 ·rw [if_neg q] at e1 e2; exact h.2 j a b e1 e2
theorem cV.append {xs ps ys qs} (h : cV ρ v o xs ps) (k : cV ρ v o ys qs) : cV ρ v o (xs ++ ys) (ps ++ qs) := by
 refine ⟨by rw [List.length_append, List.length_append, h.1, k.1], λ j a b e1 e2 => ?_⟩
 rcases Nat.lt_or_ge j xs.length with q | q
 ·rw [List.getElem?_append_left q] at e1
  rw [List.getElem?_append_left (h.1 ▸ q)] at e2
  exact h.2 j a b e1 e2
 ·rw [List.getElem?_append_right q] at e1
  rw [List.getElem?_append_right (h.1 ▸ q), <- h.1] at e2
  exact k.2 _ a b e1 e2
theorem cV.reverse {xs ps} (h : cV ρ v o xs ps) : cV ρ v o xs.reverse ps.reverse := by
 induction xs generalizing ps with
 | nil => cases ps with | nil => exact .nil | cons _ _ => exact absurd h.1 (by simp)
 | cons x xs ih =>
  cases ps with
  | nil => exact absurd h.1 (by simp)
  | cons p ps =>
   rw [List.reverse_cons, List.reverse_cons]
   exact (ih ⟨by have := h.1; simpa using this, λ k a b e1 e2 => h.2 (k + 1) a b (by simpa using e1) (by simpa using e2)⟩).append (.cons (h.2 0 _ _ rfl rfl) .nil)
theorem gb.set (R : gb ρ v o fs Z) {i a : Nat} {x : FO} {y : ee} (ha : ρ[i]? = some a) (h : ya ρ v o x y) : gb ρ v o (fs.set i x) (Z.set a y) /\ mS ρ Z ρ (Z.set a y) := by
 have hm : a ∈ ρ := List.mem_of_getElem? ha
 refine ⟨⟨by rw [List.length_set]; exact R.len, R.nodup, R.lt, λ j b z e1 e2 => ?_⟩, λ _ _ h => h, Nat.le_refl _, λ b h1 h2 => ?_, λ _ h => .inl h⟩
 ·show ya ρ v o z (if b = a then y else Z.objs b)
  rw [List.getElem?_set] at e2
  by_cases q : i = j
  ·rw [if_pos q] at e2
   split at e2
   ·cases ej e2
    have : b = a := by rw [<- q, ha] at e1; exact (Option.some.inj e1).symm
    rw [if_pos this]; exact h
   ·exact bG e2
  ·rw [if_neg q] at e2
   have : b ≠ a := λ z => q ((List.getElem?_inj (List.getElem?_eq_some_iff.mp ha).1 R.nodup).mp (by rw [ha, e1, z]))
   rw [if_neg this]; exact R.obj j b z e1 e2
 ·show (if b = a then y else Z.objs b) = _
  rw [if_neg (λ q : b = a => h2 (by rw [q]; exact hm))]
theorem gb.push (R : gb ρ v o fs Z) {x : FO} {y : ee} (h : ya (ρ ++ [Z.next]) v o x y) : gb (ρ ++ [Z.next]) v o (fs ++ [x]) (Z.push y) /\ mS ρ Z (ρ ++ [Z.next]) (Z.push y) := by
 have hp : ∀ (i a : Nat), ρ[i]? = some a -> (ρ ++ [Z.next])[i]? = some a := λ i a e => by rw [List.getElem?_append_left (List.getElem?_eq_some_iff.mp e).1]; exact e
 have hnm : Z.next ∉ ρ := λ q => Nat.lt_irrefl _ (R.lt _ q)
 refine ⟨⟨by simp [R.len], List.nodup_append.mpr ⟨R.nodup, by simp, λ a ha b hb q => hnm (by rw [List.mem_singleton.mp hb] at q; rw [<- q]; exact ha)⟩, λ a ha => ?_, λ j b z e1 e2 => ?_⟩, hp, Nat.le_succ _, λ b h1 h2 => ?_, λ a ha => ?_⟩
 ·rcases List.mem_append.mp ha with q | q
  ·exact Nat.lt_succ_of_lt (R.lt a q)
  ·rw [List.mem_singleton.mp q]; exact Nat.lt_succ_self _
 ·show ya _ v o z (if b = Z.next then y else Z.objs b)
  rcases Nat.lt_or_ge j ρ.length with q | q
  ·rw [List.getElem?_append_left q] at e1
   rw [List.getElem?_append_left (R.len ▸ q)] at e2
   rw [if_neg (Nat.ne_of_lt (R.lt b (List.mem_of_getElem? e1)))]
   exact (R.obj j b z e1 e2).mono hp
  ·rw [List.getElem?_append_right q] at e1
   rw [List.getElem?_append_right (R.len ▸ q)] at e2
   have hj : j - ρ.length = 0 := by
    have := (List.getElem?_eq_some_iff.mp e1).1
    simp at this; omega
   rw [hj] at e1
   rw [<- R.len, hj] at e2
   cases ej e1; cases ej e2
   rw [if_pos rfl]; exact h
 ·show (if b = Z.next then y else Z.objs b) = _
  rw [if_neg (Nat.ne_of_lt h1)]
 ·rcases List.mem_append.mp ha with q | q
  ·exact .inl q
  ·rw [List.mem_singleton.mp q]; exact .inr (Nat.le_refl _)
end
section
def dE (v : Nat -> Int) (o : Nat -> PV) {α β : Type} (RV : List Nat -> α -> β -> Prop) (ρ : List Nat) (Z : St) (m : Option (β × St)) (f : Option (α × FS)) : Prop :=
 ∀ x fs', f = some (x, fs') -> ∃ ρ' p Z', m = some (p, Z') /\ gb ρ' v o fs' Z' /\ mS ρ Z ρ' Z' /\ RV ρ' x p
def HS (ρ : List Nat) (v : Nat -> Int) (o : Nat -> PV) : FF -> FR -> Prop
 | .next, .next => True
 | .ret x, .ret p => ix ρ v o x p
 | _, _ => False
abbrev En (v : Nat -> Int) (o : Nat -> PV) : List Nat -> FV -> PV -> Prop := λ ρ => ix ρ v o
abbrev Hs (v : Nat -> Int) (o : Nat -> PV) : List Nat -> List FV -> List PV -> Prop := λ ρ => cV ρ v o
abbrev HL : List Nat -> Bool -> Bool -> Prop := λ _ x b => x = b
abbrev GU (v : Nat -> Int) (o : Nat -> PV) : List Nat -> FF × aN -> FR × ag -> Prop := λ ρ x p => HS ρ v o x.1 p.1 /\ yB ρ v o x.2 p.2
def QE (m : ag -> M PV) (f : aN -> FM FV) : Prop := ∀ ρ v o ffr fr fs Z, yB ρ v o ffr fr -> gb ρ v o fs Z -> dE v o (En v o) ρ Z (m fr Z) (f ffr fs)
def QT (m : ag -> M Bool) (f : aN -> FM Bool) : Prop := ∀ ρ v o ffr fr fs Z, yB ρ v o ffr fr -> gb ρ v o fs Z -> dE v o HL ρ Z (m fr Z) (f ffr fs)
def Go (m : ag -> M (List PV)) (f : aN -> FM (List FV)) : Prop := ∀ ρ v o ffr fr fs Z, yB ρ v o ffr fr -> gb ρ v o fs Z -> dE v o (Hs v o) ρ Z (m fr Z) (f ffr fs)
def QS (m : ag -> M (FR × ag)) (f : aN -> FM (FF × aN)) : Prop := ∀ ρ v o ffr fr fs Z, yB ρ v o ffr fr -> gb ρ v o fs Z -> dE v o (GU v o) ρ Z (m fr Z) (f ffr fs)
def QF (m : List PV -> M PV) (f : List FV -> FM FV) : Prop := ∀ ρ v o xs ps fs Z, cV ρ v o xs ps -> gb ρ v o fs Z -> dE v o (En v o) ρ Z (m ps Z) (f xs fs)
theorem aG {α β : Type} {m : Option (α × St)} {f : α -> St -> Option (β × St)} {a : α} {Z : St} (h : m = some (a, Z)) : cb m f = f a Z := by rw [h]; rfl
section
variable {v : Nat -> Int} {o : Nat -> PV} {α β γ δ : Type} {RV : List Nat -> α -> β -> Prop} {RV2 : List Nat -> γ -> δ -> Prop} {ρ : List Nat} {Z : St} {fs : FS}
theorem dE.ret {x : α} {p : β} (R : gb ρ v o fs Z) (h : RV ρ x p) : dE v o RV ρ Z (some (p, Z)) (some (x, fs)) := λ x' fs' e => by refine gx e ?_; rintro rfl rfl; exact qv ρ p Z rfl R .refl h
theorem dE.no {m : Option (β × St)} : dE v o RV ρ Z m none := λ _ _ e => nomatch e
theorem dE.bind {m : Option (β × St)} {f : Option (α × FS)} {b : β -> St -> Option (δ × St)} {g : α -> FS -> Option (γ × FS)} (h : dE v o RV ρ Z m f)
  (k : ∀ ρ' Z' x p fs', gb ρ' v o fs' Z' -> mS ρ Z ρ' Z' -> RV ρ' x p -> dE v o RV2 ρ' Z' (b p Z') (g x fs')) : dE v o RV2 ρ Z (cb m b) (fi f g) := by
 intro x fs' e
 refine jn (AQ e) λ y s1 e1 e2 => ?_
 refine kz (h _ _ e1) λ ρ1 p Z1 h1 R1 K1 V1 => ?_
 refine kz (k ρ1 Z1 y p s1 R1 K1 V1 _ _ e2) λ ρ2 q Z2 h2 R2 K2 V2 => ?_
 exact qv ρ2 q Z2 ((aG h1).trans h2) R2 (K1.trans K2) V2
theorem dE.bindT {m : Option (Bool × St)} {f : Option (Bool × FS)} {b : Bool -> St -> Option (δ × St)} {g : Bool -> FS -> Option (γ × FS)} (h : dE v o HL ρ Z m f)
  (k : ∀ ρ' Z' x fs', gb ρ' v o fs' Z' -> mS ρ Z ρ' Z' -> dE v o RV2 ρ' Z' (b x Z') (g x fs')) : dE v o RV2 ρ Z (cb m b) (fi f g) :=
 h.bind λ ρ' Z' x p fs' R K e => by subst e; exact k ρ' Z' x fs' R K
theorem dE.step {ρ1 Z1} {m : Option (β × St)} {f : Option (α × FS)} (K : mS ρ Z ρ1 Z1) (h : dE v o RV ρ1 Z1 m f) : dE v o RV ρ Z m f := λ x fs' e => by
 refine kz (h x fs' e) λ ρ2 q Z2 h2 R2 K2 V2 => ?_
 exact qv ρ2 q Z2 h2 R2 (K.trans K2) V2
theorem dE.imp {m m' : Option (β × St)} {f : Option (α × FS)} (i : ∀ r, m = some r -> m' = some r) (h : dE v o RV ρ Z m f) : dE v o RV ρ Z m' f := λ x fs' e => by
 refine iV (h x fs' e) λ ρ2 q Z2 h2 r => ?_
 exact z9 ρ2 q Z2 (i _ h2) r
theorem dE.opt {g : Option α} {m : Option β} (R : gb ρ v o fs Z) (h : ∀ z, g = some z -> ∃ q, m = some q /\ RV ρ z q) : dE v o RV ρ Z (m.map (·, Z)) (g.map (·, fs)) := by
 cases g with
 | none => exact dE.no
 | some z =>
  refine aQ (h z rfl) λ q hq hv => ?_
  subst hq
  exact dE.ret R hv
theorem dE.opt2 {g : Option α} {m : Option β} {b : β -> Option (δ × St)} {k : α -> Option (γ × FS)} (h : ∀ z, g = some z -> ∃ q, m = some q /\ dE v o RV2 ρ Z (b q) (k z)) : dE v o RV2 ρ Z (m.bind b) (g.bind k) := by
 cases g with
 | none => exact dE.no
 | some z =>
  refine aQ (h z rfl) λ q hq hv => ?_
  subst hq
  exact hv
theorem jc {α β : Type} {m : Option (α × St)} {f g : α -> St -> Option (β × St)} (h : ∀ a Z, f a Z = g a Z) : cb m f = cb m g := by
 cases m with
 | none => rfl
 | some r => exact h r.1 r.2
theorem oT {tbl a fr Z} : ak tbl a fr Z = cb (a fr Z) λ x Z1 => (dU tbl x Z1).map (·, Z1) := jc λ x Z1 => by cases dU tbl x Z1 <;> rfl
theorem oj {f r x fr Z} : az f r x fr Z = cb (r fr Z) λ y Z1 => (f x y Z1).map (·, Z1) := jc λ y Z1 => by cases f x y Z1 <;> rfl
theorem uy {a fr Z} : bz a fr Z = cb (a fr Z) λ x Z1 => (gm x).map (·, Z1) := jc λ y Z1 => by cases gm y <;> rfl
theorem Dz {a fr Z} : Dp a fr Z = cb (a fr Z) λ x Z1 => (cW x Z1).bind λ ws => nP ws.reverse Z1 := jc λ y Z1 => by cases cW y Z1 <;> rfl
theorem l8 {tbl a b fr Z} : am tbl a b fr Z = cb (b fr Z) λ x Z1 => cb (a fr Z1) λ y Z2 => (fZ tbl y x Z2).bind λ Z3 => some ((.next, fr), Z3) := jc λ x Z1 => jc λ y Z2 => by cases fZ tbl y x Z2 <;> rfl
theorem wC {x : FF × aN} {p : FR × ag} {b : ag -> M (FR × ag)} {g : aN -> FM (FF × aN)} (R : gb ρ v o fs Z) (V : GU v o ρ x p) : (yB ρ v o x.2 p.2 -> dE v o (GU v o) ρ Z (b p.2 Z) (g x.2 fs)) ->
  dE v o (GU v o) ρ Z (match p.1 with | .next => b p.2 Z | .ret v => some ((.ret v, p.2), Z)) (match x.1 with | .next => g x.2 fs | .ret v => some ((.ret v, x.2), fs)) := by
 intro k
 obtain ⟨y, fr⟩ := x
 obtain ⟨q, fr'⟩ := p
 cases y with
 | next => cases q with
  | next => exact k V.2
  | ret q => exact V.1.elim
 | ret y => cases q with
  | next => exact V.1.elim
  | ret q => exact dE.ret R V
theorem gb.look (R : gb ρ v o fs Z) {i a : Nat} (ha : ρ[i]? = some a) : ∃ y, fs[i]? = some y /\ ya ρ v o y (Z.objs a) := by
 have h : i < fs.length := R.len ▸ (List.getElem?_eq_some_iff.mp ha).1
 exact cC _ (List.getElem?_eq_getElem h) (R.obj i a _ ha (List.getElem?_eq_getElem h))
theorem ya.inst {c : Nat} {gs : List FV} {x : ee} (h : ya ρ v o (.inst c gs) x) : ∃ ws, x = .inst c ws /\ cV ρ v o gs ws := by
 cases x with
 | inst c' ws => exact cC ws (h.1 ▸ rfl) h.2
 | _ => exact h.elim
theorem ya.list {gs : List FV} {x : ee} (h : ya ρ v o (.list gs) x) : ∃ ws, x = .list ws /\ cV ρ v o gs ws := by
 cases x with
 | list ws => exact cC ws rfl h
 | _ => exact h.elim
theorem ya.flist {gs : List FV} {x : ee} (h : ya ρ v o (.flist gs) x) : ∃ ws, x = .flist ws /\ cV ρ v o gs ws := by
 cases x with
 | flist ws => exact cC ws rfl h
 | _ => exact h.elim
end
noncomputable def aP (k : Nat) : aN -> FM FV := λ fr Z => match fr[k]? with
 | some (some v) => some (v, Z)
 | _ => none
theorem ax (k : Nat) : QE (ab k) (aP k) := by
 intro ρ v o ffr fr fs Z F R
 unfold aP
 cases h : ffr[k]? with
 | none => exact dE.no
 | some y => cases y with
  | none => exact dE.no
  | some y =>
   refine aQ (F.2 k _ h) λ p hp hx => ?_
   unfold ab
   rw [hp]; exact dE.ret R hx
noncomputable def fX : aN -> FM FV := λ _ Z => some (.none, Z)
theorem eu : QE bq fX := λ ρ v o ffr fr fs Z F R => dE.ret R .none
noncomputable def iY (b : Bool) : aN -> FM FV := λ _ Z => some (.bool b, Z)
theorem gy (b : Bool) : QE (de b) (iY b) := λ ρ v o ffr fr fs Z F R => dE.ret R (.bool b)
noncomputable def Gg (k : Int) : aN -> FM FV := λ _ Z => some (.int (.lit k), Z)
theorem EE (k : Int) : QE (aS k) (Gg k) := λ ρ v o ffr fr fs Z F R => dE.ret R (.int _ _ rfl)
noncomputable def DQ (tbl : List (Nat × Nat)) (y : FO) : Option FV := match y with
 | .inst c fs => (match tbl.lookup c with
  | some k => fs[k]?
  | none => none)
 | _ => none
def Hf (tbl : List (Nat × Nat)) (x : FV) (Z : FS) : Option FV := match x with
 | .ref i => (Z[i]?).bind (DQ tbl)
 | _ => none
def bH (tbl : List (Nat × Nat)) (a : aN -> FM FV) : aN -> FM FV := λ fr Z => fi (a fr Z) λ x Z1 => (Hf tbl x Z1).map (·, Z1)
theorem F9 {tbl : List (Nat × Nat)} {ρ : List Nat} {v o fs Z x p} (R : gb ρ v o fs Z) (V : ix ρ v o x p) : ∀ z, Hf tbl x fs = some z -> ∃ q, dU tbl p Z = some q /\ ix ρ v o z q := by
 intro z h
 cases V with
 | ref i a ha =>
  refine aQ (R.look ha) λ y hy O => ?_
  have h2 : DQ tbl y = some z := by
   have : (fs[i]?).bind (DQ tbl) = some z := h
   rw [hy] at this; exact this
  cases y with
  | inst c gs =>
   refine aQ O.inst λ ws hw hv => ?_
   dsimp only [DQ] at h2
   unfold dU
   simp only [hw]
   cases hk : tbl.lookup c with
   | none => rw [hk] at h2; exact bG h2
   | some k => rw [hk] at h2; exact hv.get h2
  | _ => exact bG h2
 | _ => exact bG h
theorem bk {tbl : List (Nat × Nat)} {a f} (h : QE a f) : QE (ak tbl a) (bH tbl f) := λ ρ v o ffr fr fs Z F R => by
 rw [oT]
 exact (h _ _ _ _ _ _ _ F R).bind λ ρ1 Z1 x p s1 R1 K1 V1 => dE.opt R1 (F9 R1 V1)
def w8 : FV -> FV -> Option FV := λ x y => match x, y with | .int a, .int b => some (.int (.add a b)) | _, _ => none
noncomputable def FT : FV -> Option FV := λ y => match y with
 | .int b => (match b with | .lit b => some (.int (.lit (-b))) | _ => none)
 | _ => none
def zL : FV -> FV -> Option FV := λ x y => (FT y).bind (w8 x)
def xk (g : FV -> FV -> Option FV) (a b : aN -> FM FV) : aN -> FM FV := λ fr Z => fi (a fr Z) λ x Z1 => fi (b fr Z1) λ y Z2 => (g x y).map (·, Z2)
section
variable {v : Nat -> Int} {o : Nat -> PV} {ρ : List Nat} {Z : St} {fs : FS} {x y : FV} {p q : PV}
theorem BN (R : gb ρ v o fs Z) (V1 : ix ρ v o x p) (V2 : ix ρ v o y q) : dE v o (En v o) ρ Z (dq p q Z) ((w8 x y).map (·, fs)) := by
 cases V1 with
 | int a k hk => cases V2 with
  | int b l hl => exact dE.ret R (.int _ _ (by rw [hk, hl]; rfl))
  | _ => exact dE.no
 | _ => exact dE.no
theorem Fx (V : ix ρ v o y q) {z : FV} (h : FT y = some z) : ∃ l, q = .int l /\ ix ρ v o z (.int (-l)) := by
 cases V with
 | int b l hl => cases b with
  | lit b => cases ej h; exact ⟨l, rfl, .int _ _ (by rw [hl]; rfl)⟩
  | _ => exact bG h
 | _ => exact bG h
theorem Gf (R : gb ρ v o fs Z) (V1 : ix ρ v o x p) (V2 : ix ρ v o y q) : dE v o (En v o) ρ Z (hH p q Z) ((zL x y).map (·, fs)) := by
 unfold zL
 cases h : FT y with
 | none => exact dE.no
 | some z =>
  refine aQ (Fx V2 h) λ l qq1 hz => ?_; obtain rfl := qq1
  have e : hH p (.int l) Z = dq p (.int (-l)) Z := by
   cases p with
   | int k => show some (PV.int (k - l), Z) = some (.int (k + -l), Z); rw [Int.sub_eq_add_neg]
   | _ => rfl
  rw [e]
  exact BN R V1 hz
end
theorem wR {a b f g} (ha : QE a f) (hb : QE b g) : QE (bA dq a b) (xk w8 f g) := λ ρ v o ffr fr fs Z F R =>
 (ha _ _ _ _ _ _ _ F R).bind λ ρ1 Z1 x p s1 R1 K1 V1 => (hb _ _ _ _ _ _ _ (F.mono K1.pre) R1).bind λ ρ2 Z2 y q s2 R2 K2 V2 => BN R2 (V1.mono K2.pre) V2
theorem FA {a b f g} (ha : QE a f) (hb : QE b g) : QE (bA hH a b) (xk zL f g) := λ ρ v o ffr fr fs Z F R =>
 (ha _ _ _ _ _ _ _ F R).bind λ ρ1 Z1 x p s1 R1 K1 V1 => (hb _ _ _ _ _ _ _ (F.mono K1.pre) R1).bind λ ρ2 Z2 y q s2 R2 K2 V2 => Gf R2 (V1.mono K2.pre) V2
noncomputable def Bi : FV -> FV -> Option Bool := λ x y => match x with
 | .none => (match y with | .none => some true | .ref _ => some false | _ => none)
 | .ref i => (match y with | .none => some false | .ref j => some (i == j) | _ => none)
 | _ => none
theorem Bl {ρ : List Nat} {v o x y p q b} (hn : ρ.Nodup) (hx : ix ρ v o x p) (hy : ix ρ v o y q) (h : Bi x y = some b) : kQ p q = some b := by
 cases hx with
 | none => cases hy with
  | none => exact h
  | ref j b hb => exact h
  | _ => exact bG h
 | ref i a ha => cases hy with
  | none => exact h
  | ref j b hb =>
   rw [<- h]
   show some (decide (a = b)) = some (i == j)
   by_cases q : i = j
   ·subst q; rw [Option.some.inj (ha.symm.trans hb), decide_eq_true rfl, beq_self_eq_true]
   ·rw [decide_eq_false λ z => q ((List.getElem?_inj (List.getElem?_eq_some_iff.mp ha).1 hn).mp (by rw [ha, hb, z])), beq_false_of_ne q]
  | _ => exact bG h
 | _ => exact bG h
def pj (n : Bool) (a b : aN -> FM FV) : aN -> FM Bool := λ fr Z => fi (a fr Z) λ x Z1 => fi (b fr Z1) λ y Z2 => ((Bi x y).map (· != n)).map (·, Z2)
theorem same_ok {ρ : List Nat} {v o x y p q} {n : Bool} (hn : ρ.Nodup) (hx : ix ρ v o x p) (hy : ix ρ v o y q) : ∀ z, (Bi x y).map (· != n) = some z -> ∃ b, (kQ p q).map (· != n) = some b /\ z = b := λ z h => by
 refine aQ (Option.map_eq_some_iff.mp h) λ w hw e => ?_
 exact cC z (by rw [Bl hn hx hy hw, <- e]; rfl) rfl
theorem oK {a b f g} (ha : QE a f) (hb : QE b g) : QT (aY a (az uQ b)) (pj false f g) := λ ρ v o ffr fr fs Z F R => by
 refine (ha _ _ _ _ _ _ _ F R).bind (b := λ x Z1 => az _ b x fr Z1) λ ρ1 Z1 x p s1 R1 K1 V1 => ?_
 rw [oj]
 refine (hb _ _ _ _ _ _ _ (F.mono K1.pre) R1).bind λ ρ2 Z2 y q s2 R2 K2 V2 => dE.opt R2 λ z h => ?_
 refine aQ (same_ok R2.nodup (V1.mono K2.pre) V2 z h) λ b h1 h2 => ?_
 refine cC b ?_ h2
 rw [<- h1]
 unfold uQ
 cases kQ p q with
 | none => rfl
 | some w => cases w <;> rfl
theorem dO {a b f g} (ha : QE a f) (hb : QE b g) : QT (aY a (az bR b)) (pj true f g) := λ ρ v o ffr fr fs Z F R => by
 refine (ha _ _ _ _ _ _ _ F R).bind (b := λ x Z1 => az _ b x fr Z1) λ ρ1 Z1 x p s1 R1 K1 V1 => ?_
 rw [oj]
 refine (hb _ _ _ _ _ _ _ (F.mono K1.pre) R1).bind λ ρ2 Z2 y q s2 R2 K2 V2 => dE.opt R2 λ z h => ?_
 refine aQ (same_ok R2.nodup (V1.mono K2.pre) V2 z h) λ b h1 h2 => ?_
 refine cC b ?_ h2
 rw [<- h1]
 unfold bR
 cases kQ p q with
 | none => rfl
 | some w => cases w <;> rfl
def AY (t : aN -> FM Bool) : aN -> FM FV := λ fr Z => fi (t fr Z) λ b Z1 => some (.bool b, Z1)
theorem DN {a k fr Z} : eD a k fr Z = cb (aY a k fr Z) λ b Z2 => some (.bool b, Z2) := by
 unfold eD aY
 cases a fr Z <;> rfl
theorem B2 {a k t} (h : QT (aY a k) t) : QE (eD a k) (AY t) := λ ρ v o ffr fr fs Z F R => by
 rw [DN]
 exact (h _ _ _ _ _ _ _ F R).bindT λ ρ1 Z1 x s1 R1 K1 => dE.ret R1 (.bool x)
noncomputable def vt : FV -> Option Bool := λ x => match x with
 | .bool b => some b
 | .none => some false
 | _ => none
theorem uG {ρ : List Nat} {v o x p} (hx : ix ρ v o x p) : ∀ b, vt x = some b -> gm p = some b := by
 intro b h
 cases hx with
 | bool b => exact h
 | none => exact h
 | _ => exact bG h
def eB (a : aN -> FM FV) : aN -> FM Bool := λ fr Z => fi (a fr Z) λ x Z1 => (vt x).map (·, Z1)
theorem dl {a f} (h : QE a f) : QT (bz a) (eB f) := λ ρ v o ffr fr fs Z F R => by
 rw [uy]
 exact (h _ _ _ _ _ _ _ F R).bind λ ρ1 Z1 x p s1 R1 K1 V1 => dE.opt R1 λ z h => ⟨z, uG V1 z h, rfl⟩
def wE (a : aN -> FM Bool) : aN -> FM Bool := λ fr Z => fi (a fr Z) λ x Z1 => some (!x, Z1)
theorem nJ {a f} (h : QT a f) : QT (nA a) (wE f) := λ ρ v o ffr fr fs Z F R =>
 (h _ _ _ _ _ _ _ F R).bindT λ ρ1 Z1 x s1 R1 K1 => dE.ret R1 rfl
theorem DO {a fr Z} : ty a fr Z = cb (nA (bz a) fr Z) λ b Z2 => some (.bool b, Z2) := by
 unfold ty nA bz
 cases a fr Z with
 | none => rfl
 | some r =>
  show (match gm r.1 with | some b => _ | none => _) = cb (cb (match gm r.1 with | some b => _ | none => _) _) _
  cases gm r.1 <;> rfl
theorem GP {a f} (h : QE a f) : QE (ty a) (AY (wE (eB f))) := λ ρ v o ffr fr fs Z F R => by
 rw [DO]
 exact (nJ (dl h) _ _ _ _ _ _ _ F R).bindT λ ρ1 Z1 x s1 R1 K1 => dE.ret R1 (.bool x)
noncomputable def uT : aN -> FM Bool := λ _ Z => some (true, Z)
theorem on : QT cR uT := λ ρ v o ffr fr fs Z F R => dE.ret R rfl
def rS (a b : aN -> FM Bool) : aN -> FM Bool := λ fr Z => fi (a fr Z) λ x Z1 => if x then b fr Z1 else some (false, Z1)
theorem j4 {a b f g} (ha : QT a f) (hb : QT b g) : QT (c9 a b) (rS f g) := λ ρ v o ffr fr fs Z F R =>
 (ha _ _ _ _ _ _ _ F R).bindT λ ρ1 Z1 x s1 R1 K1 => by
  cases x with
  | true => exact hb _ _ _ _ _ _ _ (F.mono K1.pre) R1
  | false => exact dE.ret R1 rfl
def Hz (a b : aN -> FM Bool) : aN -> FM Bool := λ fr Z => fi (a fr Z) λ x Z1 => if x then some (true, Z1) else b fr Z1
noncomputable def CK : aN -> FM Bool := λ _ Z => some (false, Z)
theorem Cv : QT pX CK := λ ρ v o ffr fr fs Z F R => dE.ret R rfl
theorem EK {a b f g} (ha : QT a f) (hb : QT b g) : QT (Dg a b) (Hz f g) := λ ρ v o ffr fr fs Z F R =>
 (ha _ _ _ _ _ _ _ F R).bindT λ ρ1 Z1 x s1 R1 K1 => by
  cases x with
  | false => exact hb _ _ _ _ _ _ _ (F.mono K1.pre) R1
  | true => exact dE.ret R1 rfl
def wV (c : aN -> FM Bool) (a b : aN -> FM FV) : aN -> FM FV := λ fr Z => fi (c fr Z) λ x Z1 => if x then a fr Z1 else b fr Z1
theorem yH {c a b t f g} (hc : QT c t) (ha : QE a f) (hb : QE b g) : QE (qi c a b) (wV t f g) := λ ρ v o ffr fr fs Z F R =>
 (hc _ _ _ _ _ _ _ F R).bindT λ ρ1 Z1 x s1 R1 K1 => by
  cases x with
  | true => exact ha _ _ _ _ _ _ _ (F.mono K1.pre) R1
  | false => exact hb _ _ _ _ _ _ _ (F.mono K1.pre) R1
def Ey (a b : aN -> FM FV) : aN -> FM FV := λ fr Z => fi (a fr Z) λ x Z1 => match vt x with | some t => (if t then b fr Z1 else some (x, Z1)) | none => none
theorem G3 {a b f g} (ha : QE a f) (hb : QE b g) : QE (ui a b) (Ey f g) := λ ρ v o ffr fr fs Z F R =>
 (ha _ _ _ _ _ _ _ F R).bind λ ρ1 Z1 x p s1 R1 K1 V1 => by
  cases h : vt x with
  | none => exact dE.no
  | some t =>
   rw [uG V1 t h]
   cases t with
   | true => exact hb _ _ _ _ _ _ _ (F.mono K1.pre) R1
   | false => exact dE.ret R1 V1
noncomputable def cI : aN -> FM (List FV) := λ _ Z => some ([], Z)
theorem bt : Go aj cI := λ ρ v o ffr fr fs Z F R => dE.ret R .nil
def a0 (a : aN -> FM FV) (b : aN -> FM (List FV)) : aN -> FM (List FV) := λ fr Z => fi (a fr Z) λ x Z1 => fi (b fr Z1) λ xs Z2 => some (x :: xs, Z2)
theorem aK {a b f g} (ha : QE a f) (hb : Go b g) : Go (ac a b) (a0 f g) := λ ρ v o ffr fr fs Z F R =>
 (ha _ _ _ _ _ _ _ F R).bind λ ρ1 Z1 x p s1 R1 K1 V1 => (hb _ _ _ _ _ _ _ (F.mono K1.pre) R1).bind λ ρ2 Z2 y q s2 R2 K2 V2 => dE.ret R2 (.cons (V1.mono K2.pre) V2)
def DA (a : aN -> FM (List FV)) : aN -> FM FV := λ fr Z => fi (a fr Z) λ x Z1 => if x.length <= 1000 then some (.tup x, Z1) else none
theorem Cn {a f} (h : Go a f) : QE (fS a) (DA f) := λ ρ v o ffr fr fs Z F R =>
 (h _ _ _ _ _ _ _ F R).bind λ ρ1 Z1 x p s1 R1 K1 V1 => by
  rw [V1.1]
  by_cases q : p.length <= 1000
  ·rw [if_pos q, if_pos q]; exact dE.ret R1 (.tup _ _ V1.1 V1.2)
  ·rw [if_neg q, if_neg q]; exact dE.no
noncomputable def DH (vs : List FV) (Z : FS) : Option (FV × FS) := if vs.length <= 1000 then some (.ref Z.length, Z ++ [.list vs]) else none
theorem zO {ρ : List Nat} {v o vs ps fs Z} (R : gb ρ v o fs Z) (hv : cV ρ v o vs ps) : dE v o (En v o) ρ Z (nP ps Z) (DH vs fs) := by
 unfold DH nP
 rw [hv.1]
 by_cases q : ps.length <= 1000
 ·rw [if_pos q, if_pos q]
  have hp : ∀ (i a : Nat), ρ[i]? = some a -> (ρ ++ [Z.next])[i]? = some a := λ i a e => by rw [List.getElem?_append_left (List.getElem?_eq_some_iff.mp e).1]; exact e
  refine bK (R.push (x := .list vs) (y := .list ps) (hv.mono hp)) λ R1 K1 => ?_
  intro x fs' e
  refine gx e ?_; rintro rfl rfl
  exact qv _ _ _ rfl R1 K1 (.ref _ _ (by rw [<- R.len, List.getElem?_append_right (Nat.le_refl _), Nat.sub_self]; rfl))
 ·rw [if_neg q, if_neg q]; exact dE.no
def EH (a : aN -> FM (List FV)) : aN -> FM FV := λ fr Z => fi (a fr Z) λ x Z1 => DH x Z1
theorem FW {a f} (h : Go a f) : QE (cQ a) (EH f) := λ ρ v o ffr fr fs Z F R =>
 (h _ _ _ _ _ _ _ F R).bind λ ρ1 Z1 x p s1 R1 K1 V1 => zO R1 V1
noncomputable def Ht : FO -> Option (List FV) := λ y => match y with
 | .list vs => some vs
 | .flist vs => some vs
 | _ => none
def Ai (x : FV) (Z : FS) : Option (List FV) := match x with
 | .ref i => (Z[i]?).bind Ht
 | _ => none
theorem yQ {ρ : List Nat} {v o x p fs Z} (R : gb ρ v o fs Z) (hx : ix ρ v o x p) : ∀ vs, Ai x fs = some vs -> ∃ ws, cW p Z = some ws /\ cV ρ v o vs ws := by
 intro vs e
 cases hx with
 | ref i a ha =>
  refine aQ (R.look ha) λ y hy O => ?_
  have h2 : Ht y = some vs := by
   have : (fs[i]?).bind Ht = some vs := e
   rw [hy] at this; exact this
  unfold cW
  cases y with
  | list ys => cases ej h2; refine aQ O.list λ ws hw hv => ?_; simp only [hw]; exact ⟨ws, rfl, hv⟩
  | flist ys => cases ej h2; refine aQ O.flist λ ws hw hv => ?_; simp only [hw]; exact ⟨ws, rfl, hv⟩
  | _ => exact bG h2
 | _ => exact bG e
def Hl (a : aN -> FM FV) : aN -> FM FV := λ fr Z => fi (a fr Z) λ x Z1 => (Ai x Z1).bind λ ws => DH ws.reverse Z1
theorem G2 {a f} (h : QE a f) : QE (Dp a) (Hl f) := λ ρ v o ffr fr fs Z F R => by
 rw [Dz]
 refine (h _ _ _ _ _ _ _ F R).bind λ ρ1 Z1 x p s1 R1 K1 V1 => dE.opt2 λ z h => ?_
 refine aQ (yQ R1 V1 z h) λ ws hw hv => ?_
 exact cC ws hw (zO R1 hv.reverse)
noncomputable def GK : FO -> Bool := λ y => match y with
 | .list _ => true
 | _ => false
def GB (y : FV) (i : Nat) (Z : FS) (z : FO) : Option (FV × FS) := match z with
 | .list vs => if vs.length < 1000 then some (.none, Z.set i (.list (vs ++ [y]))) else none
 | _ => none
def zX (a b : aN -> FM FV) : aN -> FM FV := λ fr Z => fi (a fr Z) λ x Z1 => match x with
 | .ref i => if (Z1[i]?).any GK then fi (b fr Z1) λ y Z2 => (Z2[i]?).bind (GB y i Z2) else none
 | _ => none
theorem FQ {ρ : List Nat} {v o y q fs Z} {i a : Nat} (R : gb ρ v o fs Z) (ha : ρ[i]? = some a) (V : ix ρ v o y q) : dE v o (En v o) ρ Z (dv (.ref a) q Z) ((fs[i]?).bind (GB y i fs)) := by
 refine aQ (R.look ha) λ z hz O => ?_
 rw [hz]
 cases z with
 | list vs =>
  refine aQ O.list λ ws hw hv => ?_
  unfold dv
  simp only [hw]
  show dE v o (En v o) ρ Z _ (if vs.length < 1000 then _ else _)
  rw [hv.1]
  by_cases q : ws.length < 1000
  ·rw [if_pos q, if_pos q]
   refine bK (R.set (x := .list (vs ++ [y])) (y := .list (ws ++ [_])) ha (hv.append (.cons V .nil))) λ R3 K3 => ?_
   exact dE.step K3 (dE.ret R3 .none)
  ·rw [if_neg q, if_neg q]; exact dE.no
 | _ => exact dE.no
theorem Bn {a b f g} (ha : QE a f) (hb : QE b g) : QE (ds mi dv a b) (zX f g) := λ ρ v o ffr fr fs Z F R =>
 (ha _ _ _ _ _ _ _ F R).bind λ ρ1 Z1 x p s1 R1 K1 V1 => by
  cases V1 with
  | ref i c hc =>
   refine aQ (R1.look hc) λ z hz O => ?_
   show dE v o (En v o) ρ1 Z1 _ (if (s1[i]?).any GK then _ else _)
   rw [hz]
   cases z with
   | list vs =>
    refine aQ O.list λ ws hw hv => ?_
    have hl : mi (.ref c) Z1 = true := by unfold mi; simp only [hw]
    rw [if_pos hl]
    exact (hb _ _ _ _ _ _ _ (F.mono K1.pre) R1).bind λ ρ2 Z2 y q s2 R2 K2 V2 => FQ R2 (K2.pre _ _ hc) V2
   | _ => exact dE.no
  | _ => exact dE.no
def cT (F : List FV -> FM FV) (m : aN -> FM (List FV)) : aN -> FM FV := λ fr Z => fi (m fr Z) λ vs Z1 => F vs Z1
theorem cg {F G m f} (hF : QF F G) (hm : Go m f) : QE (ap F m) (cT G f) := λ ρ v o ffr fr fs Z Fr R =>
 (hm _ _ _ _ _ _ _ Fr R).bind λ ρ1 Z1 x p s1 R1 K1 V1 => hF _ _ _ _ _ _ _ V1 R1
noncomputable def HZ : FV -> FV -> Option FV := λ x y => match x, y with | .int a, .int b => some (.int (.mx a b)) | _, _ => none
def GA : List FV -> FM FV := λ vs Z => match vs with
 | a :: t => (match t with
  | b :: u => if u.isEmpty then ((HZ a b).map (·, Z)) else none
  | [] => none)
 | [] => none
theorem Ga : QF lC GA := by
 intro ρ v o xs ps fs Z V R
 cases xs with
 | nil => exact dE.no
 | cons a t => cases t with
  | nil => exact dE.no
  | cons b u => cases u with
   | cons c u => exact dE.no
   | nil =>
    refine aQ (V.get (k := 0) rfl) λ p hp h1 => ?_
    refine aQ (V.get (k := 1) rfl) λ q hq h2 => ?_
    have e : ps = [p, q] := by
     cases ps with
     | nil => exact bG hp
     | cons p ps => cases ej hp; cases ps with
      | nil => exact bG hq
      | cons q ps => cases ej hq; cases ps with
       | nil => rfl
       | cons r ps => exact nomatch V.1
    subst e
    cases h1 with
    | int e1 k hk => cases h2 with
     | int e2 l hl => exact dE.ret R (.int _ _ (by rw [hk, hl]; rfl))
     | _ => exact dE.no
    | _ => exact dE.no
def lL (np k : Nat) (b : aN -> FM (FF × aN)) : List FV -> FM FV := λ vs Z => if vs.length = np then fi (b (vs.map some ++ List.replicate k none) Z) λ x Z1 => match x.1 with
 | .next => some (.none, Z1)
 | .ret v => some (v, Z1) else none
theorem yB.args {ρ : List Nat} {v o xs ps} (V : cV ρ v o xs ps) (k : Nat) : yB ρ v o (xs.map some ++ List.replicate k none) (ps.map some ++ List.replicate k none) := by
 refine ⟨by rw [List.length_append, List.length_append, List.length_map, List.length_map, V.1, List.length_replicate, List.length_replicate], λ j z hz => ?_⟩
 rcases Nat.lt_or_ge j xs.length with q | q
 ·rw [List.getElem?_append_left (by rw [List.length_map]; exact q), List.getElem?_map] at hz
  refine aQ (Option.map_eq_some_iff.mp hz) λ w hw e2 => ?_
  cases ej e2
  refine aQ (V.get hw) λ p hp hv => ?_
  exact cC p (by rw [List.getElem?_append_left (by rw [List.length_map, <- V.1]; exact q), List.getElem?_map, hp]; rfl) hv
 ·rw [List.getElem?_append_right (by rw [List.length_map]; exact q)] at hz
  cases List.eq_of_mem_replicate (List.mem_of_getElem? hz)
theorem fY {np k : Nat} {b f} (h : QS b f) : QF (bg np k b) (lL np k f) := by
 intro ρ v o xs ps fs Z V R
 unfold lL bg
 rw [V.1]
 by_cases q : ps.length = np
 ·rw [if_pos q, if_pos q]
  refine (h _ _ _ _ _ _ _ (yB.args V k) R).bind λ ρ1 Z1 x p s1 R1 K1 V1 => ?_
  obtain ⟨y, fr⟩ := x
  obtain ⟨z, fr'⟩ := p
  cases y with
  | next => cases z with
   | next => exact dE.ret R1 .none
   | ret z => exact V1.1.elim
  | ret y => cases z with
   | next => exact V1.1.elim
   | ret z => exact dE.ret R1 V1.1
 ·rw [if_neg q, if_neg q]; exact dE.no
theorem yB.set {ρ v o ffr fr} (F : yB ρ v o ffr fr) {x p} (h : ix ρ v o x p) (k : Nat) : yB ρ v o (ffr.set k (some x)) (fr.set k (some p)) := by
 refine ⟨by simp [F.1], λ j y e => ?_⟩
 rw [List.getElem?_set] at e
 by_cases q : k = j
 ·rw [if_pos q] at e
  split at e
  ·rename_i hk
   cases ej e
   refine cC p ?_ h
   rw [List.getElem?_set, if_pos q, if_pos (F.1 ▸ hk)]
  ·exact bG e
 ·rw [if_neg q] at e
  obtain ⟨p', h1, h2⟩ := F.2 j y e
  exact cC p' (by rw [List.getElem?_set, if_neg q]; exact h1) h2
def cq (k : Nat) (a : aN -> FM FV) : aN -> FM (FF × aN) := λ fr Z => fi (a fr Z) λ v Z1 => some ((.next, fr.set k (some v)), Z1)
theorem bB {a f} (k : Nat) (h : QE a f) : QS (aF k a) (cq k f) := λ ρ v o ffr fr fs Z F R =>
 (h _ _ _ _ _ _ _ F R).bind λ ρ1 Z1 x p s1 R1 K1 V1 => dE.ret R1 ⟨trivial, (F.mono K1.pre).set V1 k⟩
def zV (tbl : List (Nat × Nat)) (v : FV) (y : FO) : Option FO := match y with
 | .inst c fs => (match tbl.lookup c with
  | some k => if k < fs.length then some (.inst c (fs.set k v)) else none
  | none => none)
 | _ => none
def GZ (tbl : List (Nat × Nat)) (x : FV) (v : FV) (Z : FS) : Option FS := match x with
 | .ref i => ((Z[i]?).bind (zV tbl v)).map (Z.set i)
 | _ => none
def bj (tbl : List (Nat × Nat)) (o v : aN -> FM FV) : aN -> FM (FF × aN) := λ fr Z => fi (v fr Z) λ x Z1 => fi (o fr Z1) λ y Z2 => (GZ tbl y x Z2).bind λ Z3 => some ((.next, fr), Z3)
theorem Fn {tbl : List (Nat × Nat)} {ρ : List Nat} {v o fs Z x p y q} (R : gb ρ v o fs Z) (V1 : ix ρ v o x p) (V2 : ix ρ v o y q) : ∀ fs', GZ tbl y x fs = some fs' -> ∃ Z', fZ tbl q p Z = some Z' /\ gb ρ v o fs' Z' /\ mS ρ Z ρ Z' := by
 intro fs' h
 cases V2 with
 | ref i a ha =>
  refine aQ (R.look ha) λ z hz O => ?_
  have h2 : (zV tbl x z).map (fs.set i) = some fs' := by
   have : ((fs[i]?).bind (zV tbl x)).map (fs.set i) = some fs' := h
   rw [hz] at this; exact this
  refine aQ (Option.map_eq_some_iff.mp h2) λ w hw e => ?_
  cases z with
  | inst c gs =>
   refine aQ O.inst λ ws ho hv => ?_
   dsimp only [zV] at hw
   unfold fZ
   simp only [ho]
   cases hk : tbl.lookup c with
   | none => rw [hk] at hw; exact bG hw
   | some k =>
    rw [hk] at hw
    dsimp only at hw |-
    rw [hv.1] at hw
    by_cases q : k < ws.length
    ·rw [if_pos q] at hw |-
     cases ej hw
     subst e
     exact ⟨_, rfl, R.set ha ⟨rfl, hv.set V1 k⟩⟩
    ·rw [if_neg q] at hw; exact bG hw
  | _ => exact bG hw
 | _ => exact bG h
theorem aZ {tbl : List (Nat × Nat)} {a b f g} (ha : QE a f) (hb : QE b g) : QS (am tbl a b) (bj tbl f g) := λ ρ v o ffr fr fs Z F R => by
 rw [l8]
 refine (hb _ _ _ _ _ _ _ F R).bind λ ρ1 Z1 x p s1 R1 K1 V1 => (ha _ _ _ _ _ _ _ (F.mono K1.pre) R1).bind λ ρ2 Z2 y q s2 R2 K2 V2 => dE.opt2 λ z h => ?_
 refine cj (Fn R2 (V1.mono K2.pre) V2 z h) λ Z3 h3 R3 K3 => ?_
 exact cC Z3 h3 (dE.step K3 (dE.ret R3 ⟨trivial, F.mono (K1.trans K2).pre⟩))
def sH (a : aN -> FM FV) : aN -> FM (FF × aN) := λ fr Z => fi (a fr Z) λ v Z1 => some ((.ret v, fr), Z1)
theorem jU {a f} (h : QE a f) : QS (cJ a) (sH f) := λ ρ v o ffr fr fs Z F R =>
 (h _ _ _ _ _ _ _ F R).bind λ ρ1 Z1 x p s1 R1 K1 V1 => dE.ret R1 ⟨V1, F.mono K1.pre⟩
noncomputable def Ez : aN -> FM (FF × aN) := λ fr Z => some ((.ret .none, fr), Z)
theorem DU : QS jl Ez := λ ρ v o ffr fr fs Z F R => dE.ret R ⟨.none, F⟩
def fg (a : aN -> FM FV) : aN -> FM (FF × aN) := λ fr Z => fi (a fr Z) λ v Z1 => some ((.next, fr), Z1)
theorem db {a f} (h : QE a f) : QS (bi a) (fg f) := λ ρ v o ffr fr fs Z F R =>
 (h _ _ _ _ _ _ _ F R).bind λ ρ1 Z1 x p s1 R1 K1 V1 => dE.ret R1 ⟨trivial, F.mono K1.pre⟩
noncomputable def cO : aN -> FM (FF × aN) := λ fr Z => some ((.next, fr), Z)
theorem bl : QS aA cO := λ ρ v o ffr fr fs Z F R => dE.ret R ⟨trivial, F⟩
def aW (a b : aN -> FM (FF × aN)) : aN -> FM (FF × aN) := λ fr Z => fi (a fr Z) λ x Z1 => match x.1 with
 | .next => b x.2 Z1
 | .ret v => some ((.ret v, x.2), Z1)
theorem ay {a b f g} (ha : QS a f) (hb : QS b g) : QS (ai a b) (aW f g) := λ ρ v o ffr fr fs Z F R =>
 (ha _ _ _ _ _ _ _ F R).bind λ ρ1 Z1 x p s1 R1 K1 V1 => wC R1 V1 λ F1 => hb _ _ _ _ _ _ _ F1 R1
def sw (c : aN -> FM Bool) (a b : aN -> FM (FF × aN)) : aN -> FM (FF × aN) := λ fr Z => fi (c fr Z) λ x Z1 => if x then a fr Z1 else b fr Z1
theorem fU {c a b t f g} (hc : QT c t) (ha : QS a f) (hb : QS b g) : QS (cX c a b) (sw t f g) := λ ρ v o ffr fr fs Z F R =>
 (hc _ _ _ _ _ _ _ F R).bindT λ ρ1 Z1 x s1 R1 K1 => by
  cases x with
  | true => exact ha _ _ _ _ _ _ _ (F.mono K1.pre) R1
  | false => exact hb _ _ _ _ _ _ _ (F.mono K1.pre) R1
noncomputable def mr (c : aN -> FM Bool) (b : aN -> FM (FF × aN)) : Nat -> aN -> FM (FF × aN)
 | 0, _, _ => none
 | n + 1, fr, Z => fi (c fr Z) λ t Z1 => if t then fi (b fr Z1) λ x Z2 => (match x.1 with
   | .next => mr c b n x.2 Z2
   | .ret v => some ((.ret v, x.2), Z2)) else some ((.next, fr), Z1)
theorem Cj {c : ag -> M Bool} {b : ag -> M (FR × ag)} {fr : ag} {Z : St} : ∀ r, (cb (c fr Z) λ t Z1 => if t then cb (b fr Z1) λ x Z2 => (match x.1 with
  | .next => c0 c b x.2 Z2
  | .ret v => some ((.ret v, x.2), Z2)) else some ((.next, fr), Z1)) = some r -> c0 c b fr Z = some r := by
 intro r h
 refine ba h ?_; clear h; intro t Z1 h1 h
 cases t with
 | false => exact (jd h1).trans h
 | true =>
  refine eY h ?_; clear h; intro y fr2 Z2 h2 h
  cases y with
  | next => exact eR h1 h2 h
  | ret y => exact (kq h1 h2).trans h
theorem nX {c b t f} (n : Nat) (hc : QT c t) (hb : QS b f) : QS (c0 c b) (mr t f n) := by
 induction n with
 | zero => exact λ ρ v o ffr fr fs Z F R => dE.no
 | succ n ih =>
  intro ρ v o ffr fr fs Z F R
  refine dE.imp Cj ((hc _ _ _ _ _ _ _ F R).bindT (g := λ t Z1 => if t then fi (f ffr Z1) λ x Z2 => (match x.1 with | .next => mr _ f n x.2 Z2 | .ret v => some ((.ret v, x.2), Z2)) else some ((.next, ffr), Z1)) λ ρ1 Z1 x s1 R1 K1 => ?_)
  cases x with
  | false => exact dE.ret R1 ⟨trivial, F.mono K1.pre⟩
  | true => exact (hb _ _ _ _ _ _ _ (F.mono K1.pre) R1).bind λ ρ2 Z2 y p s2 R2 K2 V2 => wC R2 V2 λ F2 => ih _ _ _ _ _ _ _ F2 R2
def GJ (i : Nat) (Z : FS) (y : FO) : Option (List FV × FS) := match y with
 | .list vs => some (vs, Z.set i (.flist vs))
 | .flist vs => some (vs, Z)
 | _ => none
def zC (x : FV) (Z : FS) : Option (List FV × FS) := match x with
 | .tup vs => if vs.length <= 1000 then some (vs, Z) else none
 | .ref i => (Z[i]?).bind (GJ i Z)
 | _ => none
noncomputable def Bu (k : Nat) (b : aN -> FM (FF × aN)) : List FV -> aN -> FM (FF × aN)
 | [], fr, Z => some ((.next, fr), Z)
 | v :: vs, fr, Z => fi (b (fr.set k (some v)) Z) λ x Z1 => match x.1 with
   | .next => Bu k b vs x.2 Z1
   | .ret p => some ((.ret p, x.2), Z1)
def CV (k : Nat) (a : aN -> FM FV) (b : aN -> FM (FF × aN)) : aN -> FM (FF × aN) := λ fr Z => fi (a fr Z) λ x Z1 => fi (zC x Z1) λ vs Z2 => Bu k b vs fr Z2
theorem yT {ρ : List Nat} {v o x p fs Z} (R : gb ρ v o fs Z) (hx : ix ρ v o x p) : dE v o (Hs v o) ρ Z (cn p Z) (zC x fs) := by
 cases hx with
 | tup xs ps h1 h2 =>
  show dE v o (Hs v o) ρ Z (if ps.length <= 1000 then _ else _) (if xs.length <= 1000 then _ else _)
  rw [h1]
  by_cases q : ps.length <= 1000
  ·rw [if_pos q, if_pos q]; exact dE.ret R ⟨h1, h2⟩
  ·rw [if_neg q, if_neg q]; exact dE.no
 | ref i a ha =>
  refine aQ (R.look ha) λ y hy O => ?_
  show dE v o (Hs v o) ρ Z _ ((fs[i]?).bind (GJ i fs))
  rw [hy]
  unfold cn
  cases y with
  | list vs =>
   refine aQ O.list λ ws hw hv => ?_
   refine bK (R.set (x := .flist vs) (y := .flist ws) ha hv) λ R1 K1 => ?_
   simp only [hw]
   exact dE.step K1 (dE.ret R1 hv)
  | flist vs =>
   refine aQ O.flist λ ws hw hv => ?_
   simp only [hw]
   exact dE.ret R hv
  | _ => exact dE.no
 | _ => exact dE.no
theorem Du {b g} (k : Nat) (hb : QS b g) {v o} : ∀ (vs : List FV) (ws : List PV) ρ ffr fr fs Z, cV ρ v o vs ws -> yB ρ v o ffr fr -> gb ρ v o fs Z -> dE v o (GU v o) ρ Z (gC k b ws fr Z) (Bu k g vs ffr fs) := by
 intro vs
 induction vs with
 | nil =>
  intro ws ρ ffr fr fs Z V F R
  cases ws with
  | cons _ _ => exact nomatch V.1
  | nil => exact dE.ret R ⟨trivial, F⟩
 | cons w vs ih =>
  intro ws ρ ffr fr fs Z V F R
  cases ws with
  | nil => exact nomatch V.1
  | cons q ws =>
   exact (hb _ _ _ _ _ _ _ (F.set (V.2 0 _ _ rfl rfl) k) R).bind λ ρ1 Z1 y p s1 R1 K1 V1 => wC R1 V1 λ F1 =>
    ih _ _ _ _ _ _ (cV.mono K1.pre ⟨Nat.succ.inj V.1, λ k a b e1 e2 => V.2 (k + 1) a b e1 e2⟩) F1 R1
theorem wp {k a b fr Z} : eX k a b fr Z = cb (a fr Z) λ x Z1 => cb (cn x Z1) λ vs Z2 => gC k b vs fr Z2 := by
 unfold eX
 cases a fr Z with
 | none => rfl
 | some r =>
  show (match cn r.1 r.2 with | some (vs, Z2) => gC k b vs fr Z2 | none => none) = cb (cn r.1 r.2) _
  cases cn r.1 r.2 <;> rfl
theorem wt {a b f g} (k : Nat) (ha : QE a f) (hb : QS b g) : QS (eX k a b) (CV k f g) := λ ρ v o ffr fr fs Z F R => by
 rw [wp]
 exact (ha _ _ _ _ _ _ _ F R).bind λ ρ1 Z1 x p s1 R1 K1 V1 => (yT R1 V1).bind λ ρ2 Z2 vs ws s2 R2 K2 V2 => Du k hb vs ws _ _ _ _ _ V2 (F.mono (K1.trans K2).pre) R2
end
theorem wW {tbl : List (Nat × Nat)} {x v : PV} {Z Z1 : St} (h1 : dU tbl x Z = some v) (h2 : fZ tbl x v Z = some Z1) : Z1 = Z := by
 unfold dU at h1
 cases x with
 | ref i =>
  dsimp only at h1
  unfold fZ at h2
  dsimp only at h2
  cases ho : Z.objs i with
  | inst c fs =>
   simp only [ho] at h1 h2
   cases hk : tbl.lookup c with
   | none => simp only [hk] at h1; exact bG h1
   | some k =>
    simp only [hk] at h1 h2
    have hlt : k < fs.length := (List.getElem?_eq_some_iff.mp h1).1
    rw [if_pos hlt] at h2
    cases ej h2
    have : fs.set k v = fs := by
     apply List.ext_getElem?
     intro j
     rw [List.getElem?_set]
     by_cases q : k = j
     ·rw [if_pos q, if_pos hlt, <- q]; exact h1.symm
     ·rw [if_neg q]
    rw [this]
    cases Z with
    | mk objs next =>
     unfold St.set
     congr 1
     funext j
     dsimp only
     by_cases q : j = i
     ·rw [if_pos q, q]; exact ho.symm
     ·rw [if_neg q]
  | _ => simp only [ho] at h1; exact bG h1
 | _ => exact bG h1
def dg : ag -> M (FR × ag) := (ai (am aX (ab 0) (bA dq (ak aX (ab 0)) (ak aL (ab 0)))) (ai (am bx (ab 0) (bA dq (ak bx (ab 0)) (ak aL (ab 0)))) (ai (am a9 (ab 0) (bA dq (ak a9 (ab 0)) (ak aL (ab 0)))) (ai (eX 1 (fS (ac (ak aM (ab 0)) (ac (ak aH (ab 0)) aj))) (ai (cX (aY (ab 1) (az bR bq)) (ai (am aL (ab 1) (bA dq (ak aL (ab 1)) (ak aL (ab 0)))) aA) aA) aA)) (ai (am aL (ab 0) (aS 0)) aA)))))
def m7 : aN -> FM (FF × aN) := (aW (bj aX (aP 0) (xk w8 (bH aX (aP 0)) (bH aL (aP 0)))) (aW (bj bx (aP 0) (xk w8 (bH bx (aP 0)) (bH aL (aP 0)))) (aW (bj a9 (aP 0) (xk w8 (bH a9 (aP 0)) (bH aL (aP 0)))) (aW (CV 1 (DA (a0 (bH aM (aP 0)) (a0 (bH aH (aP 0)) cI))) (aW (sw (pj true (aP 1) fX) (aW (bj aL (aP 1) (xk w8 (bH aL (aP 1)) (bH aL (aP 0)))) cO) cO) cO)) (aW (bj aL (aP 0) (Gg 0)) cO)))))
def eQ : List FV -> FM FV := lL 1 1 m7
theorem uk : QS dg m7 := (ay (aZ (ax 0) (wR (bk (ax 0)) (bk (ax 0)))) (ay (aZ (ax 0) (wR (bk (ax 0)) (bk (ax 0)))) (ay (aZ (ax 0) (wR (bk (ax 0)) (bk (ax 0)))) (ay (wt 1 (Cn (aK (bk (ax 0)) (aK (bk (ax 0)) bt))) (ay (fU (dO (ax 1) eu) (ay (aZ (ax 1) (wR (bk (ax 1)) (bk (ax 0)))) bl) bl) bl)) (ay (aZ (ax 0) (EE 0)) bl)))))
theorem uC {x y : PV} {Z : St} {r} (h : dq x y Z = some r) : ∃ a b, x = .int a /\ y = .int b /\ r = (.int (a + b), Z) := by
 cases x with
 | int a => cases y with
  | int b => exact kc a b rfl rfl ((Option.some.inj h).symm)
  | _ => exact bG h
 | _ => exact bG h
theorem vB {j : Nat} {fr : ag} {Z Z' : St} {x : PV} {C : Prop} (h : ab j fr Z = some (x, Z')) (k : fr[j]? = some (some x) -> Z' = Z -> C) : C := by
 unfold ab at h
 cases e : fr[j]? with
 | none => rw [e] at h; exact bG h
 | some y => cases y with
  | none => rw [e] at h; exact bG h
  | some y => rw [e] at h; refine gx h ?_; rintro rfl rfl; exact k e rfl
theorem BK {α : Type} {m : Option α} {Z Z' : St} {x : α} {C : Prop} (h : m.map (·, Z) = some (x, Z')) (k : m = some x -> Z' = Z -> C) : C := by
 cases m with
 | none => exact bG h
 | some y => refine gx h ?_; rintro rfl rfl; exact k rfl rfl
theorem mC {tbl : List (Nat × Nat)} {j : Nat} {fr : ag} {Z Z' : St} {w : PV} {C : Prop} (h : ak tbl (ab j) fr Z = some (w, Z')) (k : ∀ x, fr[j]? = some (some x) -> dU tbl x Z = some w -> Z' = Z -> C) : C := by
 rw [oT] at h
 apply ba h; clear h; intro x s h1 h2
 apply vB h1; clear h1; intro h1 e; subst e
 apply BK h2; clear h2; intro h2 e; subst e
 exact k x h1 h2 rfl
theorem y1 {tbl : List (Nat × Nat)} {j : Nat} {b : ag -> M PV} {fr : ag} {Z : St} {r : (FR × ag) × St} {C : Prop} (h : am tbl (ab j) b fr Z = some r) (k : ∀ v s x s2, b fr Z = some (v, s) -> fr[j]? = some (some x) -> fZ tbl x v s = some s2 -> r = ((.next, fr), s2) -> C) : C := by
 rw [l8] at h
 apply ba h; clear h; intro v s h1 h
 apply ba h; clear h; intro x s' h2 h
 apply vB h2; clear h2; intro h2 e; subst e
 cases e : fZ tbl x v s' with
 | none => rw [e] at h; exact bG h
 | some s2 => rw [e] at h; exact k v s' x s2 h1 h2 e (Option.some.inj h).symm
theorem q9 {tbl : List (Nat × Nat)} {j : Nat} {fr : ag} {Z : St} {r : (FR × ag) × St} {x0 : PV} {C : Prop} (h : am tbl (ab j) (bA dq (ak tbl (ab j)) (ak aL (ab 0))) fr Z = some r)
  (h0 : fr[0]? = some (some x0)) (hz : dU aL x0 Z = some (.int 0)) (k : r = ((.next, fr), Z) -> C) : C := by
 apply y1 h; clear h; intro v s x s2 h1 hx hp e
 apply ba h1; clear h1; intro u1 s3 h1 h2
 apply mC h1; clear h1; intro x' hx' g1 e1; subst e1
 apply ba h2; clear h2; intro u2 s4 h1 h2
 apply mC h1; clear h1; intro x'' hx'' g2 e1; subst e1
 cases h0.symm.trans hx''
 cases hx.symm.trans hx'
 cases hz.symm.trans g2
 refine gX (uC h2) λ a b qq1 hb hr => ?_; obtain rfl := qq1
 cases hb
 cases hr
 rw [Int.add_zero] at hp
 rw [wW g1 hp] at e
 exact k e
theorem D7 {x : PV} {t : St} (g : dU aL x t = some (.int 0)) {fr : ag} (h0 : fr[0]? = some (some x)) {r : (FR × ag) × St} {C : Prop}
  (h : (ai (cX (aY (ab 1) (az bR bq)) (ai (am aL (ab 1) (bA dq (ak aL (ab 1)) (ak aL (ab 0)))) aA) aA) aA) fr t = some r) (k : r = ((.next, fr), t) -> C) : C := by
 apply eY h; clear h; intro f fr' s h1 h2
 apply ba h1; clear h1; intro c s1 h1 h3
 apply ba h1; clear h1; intro z s2 h1 h4
 apply vB h1; clear h1; intro _ e; subst e
 rw [oj] at h4
 apply ba h4; clear h4; intro z2 s2 h1 h4
 refine gx h1 ?_; rintro rfl rfl
 apply BK h4; clear h4; intro _ e; subst e
 cases c with
 | false => refine yD h3 ?_; rintro rfl rfl rfl; cases ej h2; exact k rfl
 | true =>
  apply eY h3; clear h3; intro f3 fr3 s3 h1 h3
  apply q9 h1 h0 g; intro e; cases e
  refine yD h3 ?_; rintro rfl rfl rfl; cases ej h2; exact k rfl
theorem Eh {x : PV} {t3 : St} (g : dU aL x t3 = some (.int 0)) : ∀ (vs : List PV) (fr : ag) (r : (FR × ag) × St), fr[0]? = some (some x) ->
  gC 1 (ai (cX (aY (ab 1) (az bR bq)) (ai (am aL (ab 1) (bA dq (ak aL (ab 1)) (ak aL (ab 0)))) aA) aA) aA) vs fr t3 = some r -> r.1.1 = .next /\ r.1.2[0]? = some (some x) /\ r.2 = t3 := by
 intro vs
 induction vs with
 | nil => intro fr r h0 h; cases ej h; exact ⟨rfl, h0, rfl⟩
 | cons w vs ih =>
  intro fr r h0 h
  have h0' : (fr.set 1 (some w))[0]? = some (some x) := by rw [List.getElem?_set_ne (by decide)]; exact h0
  apply eY h; clear h; intro f fr' s h1 h2
  apply D7 g h0' h1; intro e; cases e
  exact ih _ r h0' h2
theorem Cu {x : PV} {t3 : St} (g : dU aL x t3 = some (.int 0)) {r : (FR × ag) × St}
  (h : eX 1 (fS (ac (ak aM (ab 0)) (ac (ak aH (ab 0)) aj))) (ai (cX (aY (ab 1) (az bR bq)) (ai (am aL (ab 1) (bA dq (ak aL (ab 1)) (ak aL (ab 0)))) aA) aA) aA) [some x, none] t3 = some r) :
  r.1.1 = .next /\ r.1.2[0]? = some (some x) /\ r.2 = t3 := by
 rw [wp] at h
 apply ba h; clear h; intro z s h1 h
 apply ba h1; clear h1; intro zs s1 h1 h2
 apply ba h1; clear h1; intro z1 s2 h1 h3
 apply mC h1; clear h1; intro _ _ _ e; subst e
 apply ba h3; clear h3; intro z2 s3 h1 h3
 refine gx h3 ?_; rintro rfl rfl
 apply ba h1; clear h1; intro z3 s4 h1 h3
 apply mC h1; clear h1; intro _ _ _ e; subst e
 refine gx h3 ?_; rintro rfl rfl
 refine gx h2 ?_; rintro rfl rfl
 exact Eh g _ _ r rfl h
theorem Aw {x : PV} {fr : ag} {t : St} {r : (FR × ag) × St} (g : dU aL x t = some (.int 0)) (h0 : fr[0]? = some (some x)) (h : am aL (ab 0) (aS 0) fr t = some r) : r = ((.next, fr), t) := by
 apply y1 h; clear h; intro v s x' s2 h1 h2 h3 h4
 refine gx h1 ?_; rintro rfl rfl
 cases h0.symm.trans h2
 rw [wW g h3] at h4
 exact h4
theorem AU {x : PV} {Z : St} (g : dU aL x Z = some (.int 0)) {r : (FR × ag) × St} (h : dg [some x, none] Z = some r) : r.1.1 = .next /\ r.2 = Z := by
 unfold dg at h
 apply eY h; clear h; intro _ _ _ h1 h
 apply q9 h1 rfl g; clear h1; intro e; cases e
 apply eY h; clear h; intro _ _ _ h1 h
 apply q9 h1 rfl g; clear h1; intro e; cases e
 apply eY h; clear h; intro _ _ _ h1 h
 apply q9 h1 rfl g; clear h1; intro e; cases e
 apply eY h; clear h; intro f fr t h1 h
 refine bN (Cu g h1) λ e1 e2 e3 => ?_
 clear h1
 dsimp only at e1 e2 e3
 subst e1 e3
 apply eY h; clear h; intro f fr' t h1 h
 cases Aw g e2 h1
 cases ej h
 exact ⟨rfl, rfl⟩
theorem BY {x : PV} {Z : St} {r : (FR × ag) × St} {C : Prop} (h : dg [some x, none] Z = some r) (k : ∀ off, dU aL x Z = some (.int off) -> C) : C := by
 unfold dg at h
 apply eY h; clear h; intro _ _ _ h _
 apply y1 h; clear h; intro v s x' s2 h hx hp e; clear hp e hx
 apply ba h; clear h; intro u1 s3 h1 h2
 apply mC h1; clear h1; intro _ _ _ e; subst e
 apply ba h2; clear h2; intro u2 s4 h1 h2
 apply mC h1; clear h1; intro x'' hx'' g2 e1; subst e1
 cases hx''
 refine gX (uC h2) λ a b _ hb _ => ?_
 rw [hb] at g2
 exact k b g2
theorem FN {x : PV} {Z : St} {off : Int} (g : dU aL x Z = some (.int off)) : bO [x] Z = if (off == 0) = true then some (.none, Z) else bg 1 1 dg [x] Z := by
 have htest : (aY (ak aL (ab 0)) (az fq (aS 0))) [some x, none] Z = some (off == 0, Z) := by
  show cb (ak aL (ab 0) [some x, none] Z) _ = _
  rw [oT]
  show cb ((dU aL x Z).map (·, Z)) _ = _
  rw [g]; rfl
 show cb (cb (cb (aY (ak aL (ab 0)) (az fq (aS 0)) [some x, none] Z) _) _) _ = _
 rw [htest]
 show cb (cb (if (off == 0) = true then _ else _) _) _ = _
 cases (off == 0) <;> rfl
theorem zD {ps : List PV} {Z : St} {r : PV × St} (e : bg 1 1 dg ps Z = some r) : bO ps Z = some r := by
 have hl : ps.length = 1 := by
  refine Classical.byContradiction λ q => ?_
  unfold bg at e; rw [if_neg q] at e; exact bG e
 obtain ⟨x, rfl⟩ := List.length_eq_one_iff.mp hl
 have e' : cb (dg [some x, none] Z) _ = some r := e
 apply eY e'; intro f fr s h1 h2
 apply BY h1; intro off g
 rw [FN g]
 by_cases hz : (off == 0) = true
 ·rw [if_pos hz]
  rw [beq_iff_eq.mp hz] at g
  obtain ⟨q1, q2⟩ := AU g h1
  dsimp only at q1 q2
  subst q1 q2
  exact h2
 ·rw [if_neg hz]; exact e
theorem eU : QF bO eQ := λ ρ v o xs ps fs Z V R => dE.imp (λ _ => zD) (fY uk ρ v o xs ps fs Z V R)
def p0 : aN -> FM (FF × aN) := (aW (cq 1 (EH cI)) (aW (mr (pj true (aP 0) fX) (aW (fg (zX (aP 1) (aP 0))) (aW (cq 0 (bH aR (aP 0))) cO)) 9) (aW (CV 2 (Hl (aP 1)) (aW (fg (cT eQ (a0 (aP 2) cI))) cO)) cO)))
def ju : List FV -> FM FV := lL 1 2 p0
theorem lq : QF dH ju := fY (b := jy) (ay (bB 1 (FW bt)) (ay (nX 9 (dO (ax 0) eu) (ay (db (Bn (ax 1) (ax 0))) (ay (bB 0 (bk (ax 0))) bl))) (ay (wt 2 (G2 (ax 1)) (ay (db (cg eU (aK (ax 2) bt))) bl)) bl)))
def pJ : aN -> FM (FF × aN) := (aW (cq 1 (bH bx (aP 0))) (aW (CV 2 (DA (a0 (bH aM (aP 0)) (a0 (bH aH (aP 0)) cI))) (aW (sw (pj true (aP 2) fX) (aW (cq 1 (cT GA (a0 (aP 1) (a0 (xk w8 (bH a9 (aP 2)) (bH aL (aP 2))) cI)))) cO) cO) cO)) (aW (sH (aP 1)) cO)))
def dW : List FV -> FM FV := lL 1 2 pJ
theorem eg : QF ck dW := fY (b := je) (ay (bB 1 (bk (ax 0))) (ay (wt 2 (Cn (aK (bk (ax 0)) (aK (bk (ax 0)) bt))) (ay (fU (dO (ax 2) eu) (ay (bB 1 (cg Ga (aK (ax 1) (aK (wR (bk (ax 2)) (bk (ax 2))) bt)))) bl) bl) bl)) (ay (jU (ax 1)) bl)))
def CI : aN -> FM (FF × aN) := (aW (sw (pj false (aP 1) fX) (aW (bj bL (aP 0) (aP 3)) cO) (aW (sw (pj false (bH aM (aP 1)) (aP 2)) (aW (bj aM (aP 1) (aP 3)) cO) (aW (bj aH (aP 1) (aP 3)) cO)) cO)) (aW (sw (pj true (aP 3) fX) (aW (bj aR (aP 3) (aP 1)) cO) cO) cO))
def sS : List FV -> FM FV := lL 4 0 CI
theorem rd : QF nv sS := fY (b := yM) (ay (fU (oK (ax 1) eu) (ay (aZ (ax 0) (ax 3)) bl) (ay (fU (oK (bk (ax 1)) (ax 2)) (ay (aZ (ax 1) (ax 3)) bl) (ay (aZ (ax 1) (ax 3)) bl)) bl)) (ay (fU (dO (ax 3) eu) (ay (aZ (ax 3) (ax 1)) bl) bl) bl))
def tQ : aN -> FM (FF × aN) := (aW (cq 2 (bH aH (aP 1))) (aW (fg (cT eQ (a0 (aP 1) cI))) (aW (fg (cT eQ (a0 (aP 2) cI))) (aW (bj aH (aP 1) (bH aM (aP 2))) (aW (sw (pj true (bH aM (aP 2)) fX) (aW (bj aR (bH aM (aP 2)) (aP 1)) cO) cO) (aW (fg (cT sS (a0 (aP 0) (a0 (bH aR (aP 1)) (a0 (aP 1) (a0 (aP 2) cI)))))) (aW (bj aM (aP 2) (aP 1)) (aW (bj aR (aP 1) (aP 2)) (aW (bj a9 (aP 1) (cT dW (a0 (aP 1) cI))) (aW (bj a9 (aP 2) (cT dW (a0 (aP 2) cI))) cO))))))))))
def jT : List FV -> FM FV := lL 2 1 tQ
theorem li : QF gA jT := fY (b := mv) (ay (bB 2 (bk (ax 1))) (ay (db (cg eU (aK (ax 1) bt))) (ay (db (cg eU (aK (ax 2) bt))) (ay (aZ (ax 1) (bk (ax 2))) (ay (fU (dO (bk (ax 2)) eu) (ay (aZ (bk (ax 2)) (ax 1)) bl) bl) (ay (db (cg rd (aK (ax 0) (aK (bk (ax 1)) (aK (ax 1) (aK (ax 2) bt)))))) (ay (aZ (ax 2) (ax 1)) (ay (aZ (ax 1) (ax 2)) (ay (aZ (ax 1) (cg eg (aK (ax 1) bt))) (ay (aZ (ax 2) (cg eg (aK (ax 2) bt))) bl))))))))))
def rU : aN -> FM (FF × aN) := (aW (cq 2 (bH aM (aP 1))) (aW (fg (cT eQ (a0 (aP 1) cI))) (aW (fg (cT eQ (a0 (aP 2) cI))) (aW (bj aM (aP 1) (bH aH (aP 2))) (aW (sw (pj true (bH aH (aP 2)) fX) (aW (bj aR (bH aH (aP 2)) (aP 1)) cO) cO) (aW (fg (cT sS (a0 (aP 0) (a0 (bH aR (aP 1)) (a0 (aP 1) (a0 (aP 2) cI)))))) (aW (bj aH (aP 2) (aP 1)) (aW (bj aR (aP 1) (aP 2)) (aW (bj a9 (aP 1) (cT dW (a0 (aP 1) cI))) (aW (bj a9 (aP 2) (cT dW (a0 (aP 2) cI))) cO))))))))))
def i9 : List FV -> FM FV := lL 2 1 rU
theorem j5 : QF fL i9 := fY (b := kI) (ay (bB 2 (bk (ax 1))) (ay (db (cg eU (aK (ax 1) bt))) (ay (db (cg eU (aK (ax 2) bt))) (ay (aZ (ax 1) (bk (ax 2))) (ay (fU (dO (bk (ax 2)) eu) (ay (aZ (bk (ax 2)) (ax 1)) bl) bl) (ay (db (cg rd (aK (ax 0) (aK (bk (ax 1)) (aK (ax 1) (aK (ax 2) bt)))))) (ay (aZ (ax 2) (ax 1)) (ay (aZ (ax 1) (ax 2)) (ay (aZ (ax 1) (cg eg (aK (ax 1) bt))) (ay (aZ (ax 2) (cg eg (aK (ax 2) bt))) bl))))))))))
def yN : aN -> FM (FF × aN) := (aW (sH (Ey (AY (pj true (aP 0) fX)) (bH aJ (aP 0)))) cO)
def iz : List FV -> FM FV := lL 1 0 yN
theorem ib : QF ge iz := fY (b := tf) (ay (jU (G3 (B2 (dO (ax 0) eu)) (bk (ax 0)))) bl)
def nU : aN -> FM (FF × aN) := (aW (cq 3 (bH aR (aP 1))) (aW (sw (rS (eB (aP 2)) (rS (pj false (bH aH (aP 3)) (aP 1)) uT)) (aW (fg (cT jT (a0 (aP 0) (a0 (aP 3) cI)))) (aW (sH (aP 3)) cO)) cO) (aW (sw (rS (wE (eB (aP 2))) (rS (pj false (bH aM (aP 3)) (aP 1)) uT)) (aW (fg (cT i9 (a0 (aP 0) (a0 (aP 3) cI)))) (aW (sH (aP 3)) cO)) cO) (aW (sH (aP 1)) cO))))
def ly : List FV -> FM FV := lL 3 1 nU
theorem pt : QF gk ly := fY (b := iP) (ay (bB 3 (bk (ax 1))) (ay (fU (j4 (dl (ax 2)) (j4 (oK (bk (ax 3)) (ax 1)) on)) (ay (db (cg li (aK (ax 0) (aK (ax 3) bt)))) (ay (jU (ax 3)) bl)) bl) (ay (fU (j4 (nJ (dl (ax 2))) (j4 (oK (bk (ax 3)) (ax 1)) on)) (ay (db (cg j5 (aK (ax 0) (aK (ax 3) bt)))) (ay (jU (ax 3)) bl)) bl) (ay (jU (ax 1)) bl))))
def mO : aN -> FM (FF × aN) := (aW (mr (eB (cT iz (a0 (bH aR (aP 1)) cI))) (aW (cq 2 (bH aR (aP 1))) (aW (cq 3 (bH aR (aP 2))) (aW (cq 4 (AY (pj false (bH aM (aP 3)) (aP 2)))) (aW (cq 5 (wV (eB (aP 4)) (bH aH (aP 3)) (bH aM (aP 3)))) (aW (sw (eB (cT iz (a0 (aP 5) cI))) (aW (bj aJ (aP 2) (iY false)) (aW (bj aJ (aP 5) (iY false)) (aW (bj aJ (aP 3) (iY true)) (aW (cq 1 (aP 3)) cO)))) (aW (cq 1 (cT ly (a0 (aP 0) (a0 (aP 1) (a0 (aP 4) cI))))) (aW (bj aJ (bH aR (aP 1)) (iY false)) (aW (bj aJ (aP 3) (iY true)) (aW (sw (eB (aP 4)) (aW (fg (cT i9 (a0 (aP 0) (a0 (aP 3) cI)))) cO) (aW (fg (cT jT (a0 (aP 0) (a0 (aP 3) cI)))) cO)) cO))))) cO))))) 9) (aW (bj aJ (bH bL (aP 0)) (iY false)) cO))
def jO : List FV -> FM FV := lL 2 4 mO
theorem nD : QF dj jO := fY (b := gI) (ay (nX 9 (dl (cg ib (aK (bk (ax 1)) bt))) (ay (bB 2 (bk (ax 1))) (ay (bB 3 (bk (ax 2))) (ay (bB 4 (B2 (oK (bk (ax 3)) (ax 2)))) (ay (bB 5 (yH (dl (ax 4)) (bk (ax 3)) (bk (ax 3)))) (ay (fU (dl (cg ib (aK (ax 5) bt))) (ay (aZ (ax 2) (gy false)) (ay (aZ (ax 5) (gy false)) (ay (aZ (ax 3) (gy true)) (ay (bB 1 (ax 3)) bl)))) (ay (bB 1 (cg pt (aK (ax 0) (aK (ax 1) (aK (ax 4) bt))))) (ay (aZ (bk (ax 1)) (gy false)) (ay (aZ (ax 3) (gy true)) (ay (fU (dl (ax 4)) (ay (db (cg j5 (aK (ax 0) (aK (ax 3) bt)))) bl) (ay (db (cg li (aK (ax 0) (aK (ax 3) bt)))) bl)) bl))))) bl)))))) (ay (aZ (bk (ax 0)) (gy false)) bl))
def qH : aN -> FM (FF × aN) := (aW (fg (cT eQ (a0 (aP 0) cI))) (aW (mr (pj true (bH aM (aP 0)) fX) (aW (cq 0 (bH aM (aP 0))) (aW (fg (cT eQ (a0 (aP 0) cI))) cO)) 9) (aW (sH (aP 0)) cO)))
def m9 : List FV -> FM FV := lL 1 0 qH
theorem sr : QF io m9 := fY (b := jV) (ay (db (cg eU (aK (ax 0) bt))) (ay (nX 9 (dO (bk (ax 0)) eu) (ay (bB 0 (bk (ax 0))) (ay (db (cg eU (aK (ax 0) bt))) bl))) (ay (jU (ax 0)) bl)))
def sE : aN -> FM (FF × aN) := (aW (fg (cT sS (a0 (aP 0) (a0 (bH aR (aP 1)) (a0 (aP 1) (a0 (aP 2) cI)))))) (aW (bj aM (aP 2) (bH aM (aP 1))) (aW (bj aH (aP 2) (bH aH (aP 1))) (aW (bj aJ (aP 2) (bH aJ (aP 1))) (aW (CV 3 (DA (a0 (bH aM (aP 2)) (a0 (bH aH (aP 2)) cI))) (aW (sw (pj true (aP 3) fX) (aW (bj aR (aP 3) (aP 2)) cO) cO) cO)) (aW (bj a9 (aP 2) (cT dW (a0 (aP 2) cI))) cO))))))
def oz : List FV -> FM FV := lL 3 1 sE
theorem ts : QF iZ oz := fY (b := kM) (ay (db (cg rd (aK (ax 0) (aK (bk (ax 1)) (aK (ax 1) (aK (ax 2) bt)))))) (ay (aZ (ax 2) (bk (ax 1))) (ay (aZ (ax 2) (bk (ax 1))) (ay (aZ (ax 2) (bk (ax 1))) (ay (wt 3 (Cn (aK (bk (ax 2)) (aK (bk (ax 2)) bt))) (ay (fU (dO (ax 3) eu) (ay (aZ (ax 3) (ax 2)) bl) bl) bl)) (ay (aZ (ax 2) (cg eg (aK (ax 2) bt))) bl))))))
def sZ : aN -> FM (FF × aN) := (aW (sH (wV (eB (aP 1)) (bH aH (aP 0)) (bH aM (aP 0)))) cO)
def i6 : List FV -> FM FV := lL 2 0 sZ
theorem jY : QF fR i6 := fY (b := kD) (ay (jU (yH (dl (ax 1)) (bk (ax 0)) (bk (ax 0)))) bl)
def pd : aN -> FM (FF × aN) := (aW (sw (eB (aP 2)) (aW (fg (cT jT (a0 (aP 0) (a0 (aP 1) cI)))) cO) (aW (fg (cT i9 (a0 (aP 0) (a0 (aP 1) cI)))) cO)) cO)
def gH : List FV -> FM FV := lL 3 0 pd
theorem iR : QF eJ gH := fY (b := jt) (ay (fU (dl (ax 2)) (ay (db (cg li (aK (ax 0) (aK (ax 1) bt)))) bl) (ay (db (cg j5 (aK (ax 0) (aK (ax 1) bt)))) bl)) bl)
def ul : aN -> FM (FF × aN) := (aW (cq 4 (cT i6 (a0 (aP 2) (a0 (aP 3) cI)))) (aW (sw (eB (cT iz (a0 (aP 4) cI))) (aW (bj aJ (aP 4) (iY false)) (aW (bj aJ (aP 2) (iY true)) (aW (fg (cT gH (a0 (aP 0) (a0 (aP 2) (a0 (aP 3) cI))))) (aW (cq 4 (cT i6 (a0 (aP 2) (a0 (aP 3) cI)))) cO)))) cO) (aW (cq 5 (wV (eB (aP 3)) (bH aH (aP 4)) (bH aM (aP 4)))) (aW (cq 6 (wV (eB (aP 3)) (bH aM (aP 4)) (bH aH (aP 4)))) (aW (sw (rS (wE (eB (cT iz (a0 (aP 5) cI)))) (rS (wE (eB (cT iz (a0 (aP 6) cI)))) uT)) (aW (bj aJ (aP 4) (iY true)) (aW (sw (Hz (eB (bH aJ (aP 2))) (Hz (pj false (aP 2) (bH bL (aP 0))) CK)) (aW (bj aJ (aP 2) (iY false)) (aW (sH fX) cO)) cO) (aW (sH (aP 2)) cO))) cO) (aW (sw (wE (eB (cT iz (a0 (aP 5) cI)))) (aW (bj aJ (aP 6) (iY false)) (aW (bj aJ (aP 4) (iY true)) (aW (fg (cT gH (a0 (aP 0) (a0 (aP 4) (a0 (AY (wE (eB (aP 3)))) cI))))) (aW (cq 4 (cT i6 (a0 (aP 2) (a0 (aP 3) cI)))) (aW (cq 5 (wV (eB (aP 3)) (bH aH (aP 4)) (bH aM (aP 4)))) cO))))) cO) (aW (bj aJ (aP 4) (bH aJ (aP 2))) (aW (bj aJ (aP 2) (iY false)) (aW (bj aJ (aP 5) (iY false)) (aW (fg (cT gH (a0 (aP 0) (a0 (aP 2) (a0 (aP 3) cI))))) (aW (sH fX) cO)))))))))))
def qu : List FV -> FM FV := lL 4 3 ul
theorem wd : QF jQ qu := fY (b := mu) (ay (bB 4 (cg jY (aK (ax 2) (aK (ax 3) bt)))) (ay (fU (dl (cg ib (aK (ax 4) bt))) (ay (aZ (ax 4) (gy false)) (ay (aZ (ax 2) (gy true)) (ay (db (cg iR (aK (ax 0) (aK (ax 2) (aK (ax 3) bt))))) (ay (bB 4 (cg jY (aK (ax 2) (aK (ax 3) bt)))) bl)))) bl) (ay (bB 5 (yH (dl (ax 3)) (bk (ax 4)) (bk (ax 4)))) (ay (bB 6 (yH (dl (ax 3)) (bk (ax 4)) (bk (ax 4)))) (ay (fU (j4 (nJ (dl (cg ib (aK (ax 5) bt)))) (j4 (nJ (dl (cg ib (aK (ax 6) bt)))) on)) (ay (aZ (ax 4) (gy true)) (ay (fU (EK (dl (bk (ax 2))) (EK (oK (ax 2) (bk (ax 0))) Cv)) (ay (aZ (ax 2) (gy false)) (ay (jU eu) bl)) bl) (ay (jU (ax 2)) bl))) bl) (ay (fU (nJ (dl (cg ib (aK (ax 5) bt)))) (ay (aZ (ax 6) (gy false)) (ay (aZ (ax 4) (gy true)) (ay (db (cg iR (aK (ax 0) (aK (ax 4) (aK (GP (ax 3)) bt))))) (ay (bB 4 (cg jY (aK (ax 2) (aK (ax 3) bt)))) (ay (bB 5 (yH (dl (ax 3)) (bk (ax 4)) (bk (ax 4)))) bl))))) bl) (ay (aZ (ax 4) (bk (ax 2))) (ay (aZ (ax 2) (gy false)) (ay (aZ (ax 5) (gy false)) (ay (db (cg iR (aK (ax 0) (aK (ax 2) (aK (ax 3) bt))))) (ay (jU eu) bl)))))))))))
def nO : aN -> FM (FF × aN) := (aW (mr (rS (pj true (aP 1) (bH bL (aP 0))) (rS (wE (eB (cT iz (a0 (aP 1) cI)))) uT)) (aW (cq 3 (AY (pj false (bH aM (aP 2)) (aP 1)))) (aW (cq 1 (cT qu (a0 (aP 0) (a0 (aP 1) (a0 (aP 2) (a0 (aP 3) cI)))))) (aW (sw (pj false (aP 1) fX) (aW Ez cO) cO) (aW (cq 2 (bH aR (aP 1))) cO)))) 9) (aW (sw (pj true (aP 1) fX) (aW (bj aJ (aP 1) (iY false)) cO) cO) cO))
def kg : List FV -> FM FV := lL 3 1 nO
theorem ox : QF fH kg := fY (b := ii) (ay (nX 9 (j4 (dO (ax 1) (bk (ax 0))) (j4 (nJ (dl (cg ib (aK (ax 1) bt)))) on)) (ay (bB 3 (B2 (oK (bk (ax 2)) (ax 1)))) (ay (bB 1 (cg wd (aK (ax 0) (aK (ax 1) (aK (ax 2) (aK (ax 3) bt)))))) (ay (fU (oK (ax 1) eu) (ay DU bl) bl) (ay (bB 2 (bk (ax 1))) bl))))) (ay (fU (dO (ax 1) eu) (ay (aZ (ax 1) (gy false)) bl) bl) bl))
def uv : aN -> FM (FF × aN) := (aW (bj dT (aP 0) (xk zL (bH dT (aP 0)) (Gg 1))) (aW (fg (cT ju (a0 (aP 1) cI))) (aW (cq 2 (aP 1)) (aW (sw (rS (pj true (bH aM (aP 1)) fX) (rS (pj true (bH aH (aP 1)) fX) uT)) (aW (cq 2 (cT m9 (a0 (bH aH (aP 1)) cI))) cO) cO) (aW (cq 3 (wV (pj true (bH aM (aP 2)) fX) (bH aM (aP 2)) (bH aH (aP 2)))) (aW (cq 4 (bH aR (aP 2))) (aW (cq 5 (bH aJ (aP 2))) (aW (fg (cT sS (a0 (aP 0) (a0 (aP 4) (a0 (aP 2) (a0 (aP 3) cI)))))) (aW (sw (pj true (aP 2) (aP 1)) (aW (fg (cT oz (a0 (aP 0) (a0 (aP 1) (a0 (aP 2) cI))))) (aW (cq 4 (wV (pj false (aP 4) (aP 1)) (aP 2) (aP 4))) cO)) cO) (aW (cq 6 (aP 4)) (aW (mr (pj true (aP 6) fX) (aW (bj a9 (aP 6) (cT dW (a0 (aP 6) cI))) (aW (cq 6 (bH aR (aP 6))) cO)) 9) (aW (sw (wE (eB (aP 5))) (aW (fg (cT kg (a0 (aP 0) (a0 (aP 3) (a0 (aP 4) cI))))) cO) cO) (aW (bj aM (aP 1) fX) (aW (bj aH (aP 1) fX) (aW (bj aR (aP 1) fX) cO)))))))))))))))
def qc : List FV -> FM FV := lL 2 5 uv
theorem wb : QF fD qc := fY (b := md) (ay (aZ (ax 0) (FA (bk (ax 0)) (EE 1))) (ay (db (cg lq (aK (ax 1) bt))) (ay (bB 2 (ax 1)) (ay (fU (j4 (dO (bk (ax 1)) eu) (j4 (dO (bk (ax 1)) eu) on)) (ay (bB 2 (cg sr (aK (bk (ax 1)) bt))) bl) bl) (ay (bB 3 (yH (dO (bk (ax 2)) eu) (bk (ax 2)) (bk (ax 2)))) (ay (bB 4 (bk (ax 2))) (ay (bB 5 (bk (ax 2))) (ay (db (cg rd (aK (ax 0) (aK (ax 4) (aK (ax 2) (aK (ax 3) bt)))))) (ay (fU (dO (ax 2) (ax 1)) (ay (db (cg ts (aK (ax 0) (aK (ax 1) (aK (ax 2) bt))))) (ay (bB 4 (yH (oK (ax 4) (ax 1)) (ax 2) (ax 4))) bl)) bl) (ay (bB 6 (ax 4)) (ay (nX 9 (dO (ax 6) eu) (ay (aZ (ax 6) (cg eg (aK (ax 6) bt))) (ay (bB 6 (bk (ax 6))) bl))) (ay (fU (nJ (dl (ax 5))) (ay (db (cg ox (aK (ax 0) (aK (ax 3) (aK (ax 4) bt))))) bl) bl) (ay (aZ (ax 1) eu) (ay (aZ (ax 1) eu) (ay (aZ (ax 1) eu) bl)))))))))))))))
inductive Sh where
 | E | N (l : Sh) (red : Bool) (r : Sh)
 deriving DecidableEq, Inhabited
noncomputable def Sh.size : Sh -> Nat
 | .E => 0
 | .N l _ r => l.size + 1 + r.size
inductive RT where
 | E | N (l : RT) (id : Nat) (b e lim off : FE) (red : Bool) (r : RT)
 deriving Inhabited
noncomputable def RT.ptr : RT -> FV
 | .E => .none
 | .N _ id _ _ _ _ _ _ => .ref id
noncomputable def lV : Sh -> Nat -> RT
 | .E, _ => .E
 | .N l c r, base => .N (lV l base) (base + l.size) (.var (4 * (base + l.size))) (.var (4 * (base + l.size) + 1)) (.var (4 * (base + l.size) + 2)) (.var (4 * (base + l.size) + 3)) c (lV r (base + l.size + 1))
noncomputable def HD (id : Nat) (b e lim off : FE) (red : Bool) (l r p : FV) : FO :=
 .inst 0 [.opq (3 * id), .int b, .int e, .opq (3 * id + 1), .opq (3 * id + 2), .int lim, .int off, .bool red, l, r, p]
noncomputable def RT.objs : RT -> FV -> List FO
 | .E, _ => []
 | .N l id b e lim off red r, p => l.objs (.ref id) ++ HD id b e lim off red l.ptr r.ptr p :: r.objs (.ref id)
def zQ (s : Sh) : FS := .inst 1 [(lV s 1).ptr, .int (.var 0)] :: (lV s 1).objs .none
noncomputable def FV.sameP : FV -> FV -> Bool
 | .none, .none => true
 | .ref i, .ref j => i == j
 | _, _ => false
structure Bg where
 a : Nat
 b : FE
 e : FE
 a1 : Nat
 a2 : Nat
 lim : FE
 off : FE
 red : Bool
 l : FV
 r : FV
 q : FV
noncomputable def Bg.fo (N : Bg) : FO := .inst 0 [.opq N.a, .int N.b, .int N.e, .opq N.a1, .opq N.a2, .int N.lim, .int N.off, .bool N.red, N.l, N.r, N.q]
noncomputable def pA {β : Type} (k : FV -> List FV -> Option β) (l : List FV) : Option β := match l with
 | x :: t => k x t
 | [] => none
noncomputable def pE {β : Type} (r : β) (l : List FV) : Option β := match l with
 | [] => some r
 | _ :: _ => none
def pO {β : Type} (k : Nat -> List FV -> Option β) : List FV -> Option β := pA λ x => match x with
 | .opq a => k a
 | _ => λ _ => none
def pI {β : Type} (k : FE -> List FV -> Option β) : List FV -> Option β := pA λ x => match x with
 | .int a => k a
 | _ => λ _ => none
def pB {β : Type} (k : Bool -> List FV -> Option β) : List FV -> Option β := pA λ x => match x with
 | .bool a => k a
 | _ => λ _ => none
noncomputable def Hy {β : Type} (c : Nat) (k : List FV -> Option β) (y : FO) : Option β := match y with
 | .inst c' l => if c' = c then k l else none
 | _ => none
def Dq : FO -> Option Bg := Hy 0 (pO λ a => pI λ b => pI λ e => pO λ a1 => pO λ a2 => pI λ lim => pI λ off => pB λ red => pA λ l => pA λ r => pA λ q => pE ⟨a, b, e, a1, a2, lim, off, red, l, r, q⟩)
noncomputable def nS (fs : FS) : Nat -> FV -> FV -> Option RT
 | n, p, x => match x with
  | .none => some .E
  | .ref i => match n with
   | 0 => none
   | n + 1 => (fs[i]?).bind λ y => (Dq y).bind λ N => if N.a == 3 * i && N.a1 == 3 * i + 1 && N.a2 == 3 * i + 2 && FV.sameP p N.q then
    (nS fs n (.ref i) N.l).bind λ l => (nS fs n (.ref i) N.r).bind λ r => some (.N l i N.b N.e N.lim N.off N.red r) else none
  | _ => none
noncomputable def RT.shape : RT -> Sh
 | .E => .E
 | .N l _ _ _ _ _ c r => .N l.shape c r.shape
noncomputable def RT.ids : RT -> List Nat
 | .E => []
 | .N l id _ _ _ _ _ r => l.ids ++ id :: r.ids
def E8 (fs : FS) : Option FV := match fs with
 | y :: _ => Hy 1 (pA λ x => pI λ _ => pE x) y
 | [] => none
def wc (fs : FS) : Option RT := (E8 fs).bind (nS fs 8 .none)
noncomputable def lu : Sh -> Nat -> Sh
 | .E, _ => .N .E true .E
 | .N l c r, k => if k <= l.size then .N (lu l k) c r else .N l c (lu r (k - l.size - 1))
noncomputable def Ax (k : Nat) : List Nat -> List Nat
 | [] => [k]
 | j :: l => if k <= j then k :: j :: l else j :: Ax k l
noncomputable def sC : List Nat -> List Nat -> List Nat
 | [], y => y
 | k :: x, y => Ax k (sC x y)
noncomputable abbrev LF := List Nat × Int
def LF.plus (a b : LF) : LF := (sC a.1 b.1, a.2 + b.2)
noncomputable def LF.val (v : Nat -> Int) (a : LF) : Int := a.1.foldr (λ k s => v k + s) 0 + a.2
noncomputable def FE.nf : FE -> Option LF
 | .var k => some ([k], 0)
 | .lit k => some ([], k)
 | .add a b => match a.nf, b.nf with | some x, some y => some (x.plus y) | _, _ => none
 | .mx _ _ => none
noncomputable def FE.nfm : FE -> List LF
 | .var k => [([k], 0)]
 | .lit k => [([], k)]
 | .add a b => a.nfm.flatMap λ x => b.nfm.map λ y => x.plus y
 | .mx a b => a.nfm ++ b.nfm
noncomputable def LF.same (a b : LF) : Bool := a.1 == b.1 && a.2 == b.2
noncomputable def LF.dom (iF : List (List Nat × Nat)) : Nat -> LF -> LF -> Bool
 | 0, f, g => f.same g
 | n + 1, f, g => f.same g || iF.any λ p => g.1.contains p.2 && LF.dom iF n f (sC p.1 (g.1.erase p.2), g.2)
def FE.le (iF : List (List Nat × Nat)) (a b : FE) : Bool := a.nfm.all λ f => b.nfm.any λ g => f.dom iF 8 g
def RT.top : RT -> Option FE
 | .E => none
 | .N _ _ _ _ lim off _ _ => some (.add lim off)
noncomputable def RT.ubOk (iF : List (List Nat × Nat)) : RT -> Bool
 | .E => true
 | .N l _ _ e lim _ _ r => e.le iF lim && (match l.top with | some m => m.le iF lim | none => true) && (match r.top with | some m => m.le iF lim | none => true) && l.ubOk iF && r.ubOk iF
def Fj : Sh -> Nat -> List (List Nat)
 | .E, _ => []
 | .N l _ _, base => [[4 * (base + l.size) + 2, 4 * (base + l.size) + 3]]
noncomputable def iF : Sh -> Nat -> List (List Nat × Nat)
 | .E, _ => []
 | .N l c r, base => ([4 * (base + l.size) + 1], 4 * (base + l.size) + 2) :: ((Fj l base ++ Fj r (base + l.size + 1)).map λ m => (m, 4 * (base + l.size) + 2)) ++ iF l base ++ iF r (base + l.size + 1)
noncomputable def RT.eff : RT -> FE -> List (Nat × FE × FE)
 | .E, _ => []
 | .N l id b e _ off _ r, acc => l.eff (.add acc off) ++ (id, .add b (.add acc off), .add e (.add acc off)) :: r.eff (.add acc off)
def Ff (x y : FE) : Bool := match x.nf, y.nf with
 | some x, some y => x.same y
 | _, _ => false
def Bv (a b : Nat × FE × FE) : Bool := a.1 == b.1 && Ff a.2.1 b.2.1 && Ff a.2.2 b.2.2
noncomputable def sJ : List (Nat × FE × FE) -> List (Nat × FE × FE) -> Bool
 | [], [] => true
 | a :: x, b :: y => Bv a b && sJ x y
 | _, _ => false
noncomputable def HH : List Sh := [.E, (.N .E false .E), (.N (.N .E true .E) false .E), (.N .E false (.N .E true .E)), (.N (.N .E true .E) false (.N .E true .E)), (.N (.N .E false .E) false (.N .E false .E)), (.N (.N (.N .E true .E) false .E) false (.N .E false .E)), (.N (.N .E false (.N .E true .E)) false (.N .E false .E)), (.N (.N .E false .E) false (.N (.N .E true .E) false .E)), (.N (.N .E false .E) false (.N .E false (.N .E true .E))), (.N (.N (.N .E true .E) false (.N .E true .E)) false (.N .E false .E))]
noncomputable def HC : List Sh := [(.N (.N (.N .E true .E) false .E) false (.N (.N .E true .E) false .E)), (.N (.N (.N .E true .E) false .E) false (.N .E false (.N .E true .E))), (.N (.N .E false (.N .E true .E)) false (.N (.N .E true .E) false .E)), (.N (.N .E false (.N .E true .E)) false (.N .E false (.N .E true .E)))]
noncomputable def HM : List Sh := [(.N (.N .E false .E) false (.N (.N .E true .E) false (.N .E true .E))), (.N (.N (.N .E false .E) true (.N .E false .E)) false (.N .E false .E)), (.N (.N .E false .E) false (.N (.N .E false .E) true (.N .E false .E))), (.N (.N (.N (.N .E true .E) false .E) true (.N .E false .E)) false (.N .E false .E))]
noncomputable def HJ : List Sh := [(.N (.N (.N .E false (.N .E true .E)) true (.N .E false .E)) false (.N .E false .E)), (.N (.N (.N .E false .E) true (.N (.N .E true .E) false .E)) false (.N .E false .E)), (.N (.N (.N .E false .E) true (.N .E false (.N .E true .E))) false (.N .E false .E))]
noncomputable def HF : List Sh := [(.N (.N (.N .E true .E) false (.N .E true .E)) false (.N (.N .E true .E) false .E)), (.N (.N (.N .E true .E) false (.N .E true .E)) false (.N .E false (.N .E true .E))), (.N (.N (.N .E true .E) false .E) false (.N (.N .E true .E) false (.N .E true .E)))]
noncomputable def HN : List Sh := [(.N (.N .E false (.N .E true .E)) false (.N (.N .E true .E) false (.N .E true .E))), (.N (.N .E false .E) false (.N (.N (.N .E true .E) false .E) true (.N .E false .E))), (.N (.N .E false .E) false (.N (.N .E false (.N .E true .E)) true (.N .E false .E)))]
noncomputable def HE : List Sh := [(.N (.N .E false .E) false (.N (.N .E false .E) true (.N (.N .E true .E) false .E))), (.N (.N .E false .E) false (.N (.N .E false .E) true (.N .E false (.N .E true .E)))), (.N (.N (.N .E false .E) true (.N .E false .E)) false (.N (.N .E true .E) false .E))]
noncomputable def HI : List Sh := [(.N (.N (.N .E false .E) true (.N .E false .E)) false (.N .E false (.N .E true .E))), (.N (.N (.N .E true .E) false .E) false (.N (.N .E false .E) true (.N .E false .E))), (.N (.N .E false (.N .E true .E)) false (.N (.N .E false .E) true (.N .E false .E)))]
def LS : List Sh := HH ++ HC ++ HM ++ HJ ++ HF ++ HN ++ HE ++ HI
noncomputable def GN (s : Sh) : Bool := LS.contains s
def j6 (s : Sh) (old : List (Nat × FE × FE)) (fs : FS) : Bool := match wc fs with
 | some rt => sJ (rt.eff (.lit 0)) old && rt.ubOk (iF s 1) && GN rt.shape
 | none => false
def rj (s : Sh) (k : Nat) : Bool := match jO [.ref 0, .ref (k + 1)] (zQ (lu s k)) with
 | some (_, fs) => j6 (lu s k) ((lV (lu s k) 1).eff (.lit 0)) fs
 | none => false
noncomputable def FV.isN : FV -> Bool
 | .none => true
 | _ => false
def uA (i : Nat) (N : Bg) : Bool := N.a == 3 * i && N.a1 == 3 * i + 1 && N.a2 == 3 * i + 2 && N.l.isN && N.r.isN && N.q.isN
def pa (s : Sh) (k : Nat) : Bool := match qc [.ref 0, .ref (k + 1)] (zQ s) with
 | some (_, fs) => j6 s (((lV s 1).eff (.lit 0)).eraseIdx k) fs && (fs[k + 1]?.bind Dq).any (uA (k + 1))
 | none => false
def z0 (a : Nat × FE × FE) (N : Bg) : Bool := Ff a.2.1 N.b && Ff a.2.2 N.e
def wh (s : Sh) (k : Nat) : Bool := match ju [.ref (k + 1)] (zQ s) with
 | some (_, fs) => j6 s ((lV s 1).eff (.lit 0)) fs && ((lV s 1).eff (.lit 0))[k]?.any λ a => (fs[k + 1]?.bind Dq).any (z0 a)
 | none => false
def fC (s : Sh) : Bool := (List.range s.size).all (λ k => pa s k && wh s k) && (s.size == 0 || 5 < s.size || (List.range (s.size + 1)).all (λ k => rj s k))
theorem Fb : HH.all fC = true := by decide +kernel
theorem Fo : HC.all fC = true := by decide +kernel
theorem FL : HM.all fC = true := by decide +kernel
theorem FU : HJ.all fC = true := by decide +kernel
theorem FP : HF.all fC = true := by decide +kernel
theorem FG : HN.all fC = true := by decide +kernel
theorem E1 : HE.all fC = true := by decide +kernel
theorem EZ : HI.all fC = true := by decide +kernel
theorem EW : ∀ s ∈ LS, fC s = true := by
 intro s hs
 unfold LS at hs
 simp only [List.mem_append] at hs
 rcases hs with ((((((h | h) | h) | h) | h) | h) | h) | h
 ·exact List.all_eq_true.mp Fb s h
 ·exact List.all_eq_true.mp Fo s h
 ·exact List.all_eq_true.mp FL s h
 ·exact List.all_eq_true.mp FU s h
 ·exact List.all_eq_true.mp FP s h
 ·exact List.all_eq_true.mp FG s h
 ·exact List.all_eq_true.mp E1 s h
 ·exact List.all_eq_true.mp EZ s h
section
structure Nd where
 id : Nat
 num : PV
 b : Int
 e : Int
 fa : PV
 ra : PV
 lim : Int
 off : Int
 red : Bool
inductive T where
 | E | N (l : T) (x : Nd) (r : T)
noncomputable def T.ptr : T -> PV
 | .E => .none
 | .N _ x _ => .ref x.id
noncomputable def Nd.obj (x : Nd) (l r p : PV) : ee := .inst 0 [x.num, .int x.b, .int x.e, x.fa, x.ra, .int x.lim, .int x.off, .bool x.red, l, r, p]
noncomputable def Sub (Z : St) : PV -> T -> Prop
 | _, .E => True
 | p, .N l x r => Z.objs x.id = x.obj l.ptr r.ptr p /\ Sub Z (.ref x.id) l /\ Sub Z (.ref x.id) r
noncomputable def T.nodes : T -> List Nd
 | .E => []
 | .N l x r => l.nodes ++ x :: r.nodes
noncomputable def T.ids (t : T) : List Nat := t.nodes.map (·.id)
noncomputable def T.shape : T -> Sh
 | .E => .E
 | .N l x r => .N l.shape x.red r.shape
noncomputable def T.top : T -> Option Int
 | .E => none
 | .N _ x _ => some (x.lim + x.off)
noncomputable def T.UB : T -> Prop
 | .E => True
 | .N l x r => x.e <= x.lim /\ (∀ m, l.top = some m -> m <= x.lim) /\ (∀ m, r.top = some m -> m <= x.lim) /\ l.UB /\ r.UB
structure It where
 id : Nat
 num : PV
 b : Int
 e : Int
noncomputable def T.inord : Int -> T -> List It
 | _, .E => []
 | c, .N l x r => l.inord (c + x.off) ++ ⟨x.id, x.num, x.b + (c + x.off), x.e + (c + x.off)⟩ :: r.inord (c + x.off)
structure jX (Z : St) (tr : Nat) (t : T) : Prop where
 root : ∃ cnt, Z.objs tr = .inst 1 [t.ptr, .int cnt]
 sub : Sub Z .none t
 nodup : (tr :: t.ids).Nodup
 lt : ∀ a ∈ tr :: t.ids, a < Z.next
theorem T.shape_size : ∀ t : T, t.shape.size = t.nodes.length
 | .E => rfl
 | .N l x r => by simp only [T.shape, Sh.size, T.nodes, List.length_append, List.length_cons, T.shape_size l, T.shape_size r]; exact Nat.add_right_comm ..
theorem T.inord_ids : ∀ (c : Int) (t : T), (t.inord c).map (·.id) = t.ids
 | _, .E => rfl
 | c, .N l x r => by
  show ((l.inord _ ++ _ :: r.inord _).map _) = (l.nodes ++ x :: r.nodes).map _
  rw [List.map_append, List.map_append, List.map_cons, List.map_cons, T.inord_ids _ l, T.inord_ids _ r]; rfl
theorem T.inord_length (c : Int) (t : T) : (t.inord c).length = t.nodes.length := by
 have := congrArg List.length (T.inord_ids c t)
 simpa [T.ids] using this
section
variable (ρ : List Nat) (v : Nat -> Int) (o : Nat -> PV)
noncomputable def fW : RT -> T
 | .E => .E
 | .N l id b e lim off red r => .N (fW l) ⟨(ρ[id]?).getD 0, o (3 * id), b.ev v, e.ev v, o (3 * id + 1), o (3 * id + 2), lim.ev v, off.ev v, red⟩ (fW r)
def iT (a : Nat × FE × FE) : It := ⟨(ρ[a.1]?).getD 0, o (3 * a.1), a.2.1.ev v, a.2.2.ev v⟩
end
noncomputable def iS (cnt : Int) (L : List Nd) (n : Nat) : Int := if n < 4 then cnt else match L[n / 4 - 1]? with
 | some x => (match n % 4 with | 0 => x.b | 1 => x.e | 2 => x.lim | _ => x.off)
 | none => 0
noncomputable def mL (L : List Nd) (n : Nat) : PV := match L[n / 3 - 1]? with
 | some x => (match n % 3 with | 0 => x.num | 1 => x.fa | _ => x.ra)
 | none => .none
theorem vg {cnt : Int} {L : List Nd} {i : Nat} {x : Nd} (h : L[i]? = some x) : iS cnt L (4 * (i + 1)) = x.b /\ iS cnt L (4 * (i + 1) + 1) = x.e /\ iS cnt L (4 * (i + 1) + 2) = x.lim /\ iS cnt L (4 * (i + 1) + 3) = x.off := by
 have key : ∀ j, j < 4 -> (4 * (i + 1) + j) / 4 - 1 = i := λ j hj => by lia
 have k2 : ∀ j, j < 4 -> (4 * (i + 1) + j) % 4 = j := λ j hj => by lia
 refine ⟨?_, ?_, ?_, ?_⟩
 ·unfold iS; rw [if_neg (by lia), show 4 * (i + 1) = 4 * (i + 1) + 0 from rfl, key 0 (by exact Nat.zero_lt_succ _), k2 0 (by exact Nat.zero_lt_succ _), h]; try rfl
 ·unfold iS; rw [if_neg (by lia), key 1 (by decide), k2 1 (by decide), h]; try rfl
 ·unfold iS; rw [if_neg (by lia), key 2 (by exact Nat.le_succ _), k2 2 (by exact Nat.le_succ _), h]; try rfl
 ·unfold iS; rw [if_neg (by lia), key 3 (by exact Nat.le_refl _), k2 3 (by exact Nat.le_refl _), h]; try rfl
theorem yW {L : List Nd} {i : Nat} {x : Nd} (h : L[i]? = some x) : mL L (3 * (i + 1)) = x.num /\ mL L (3 * (i + 1) + 1) = x.fa /\ mL L (3 * (i + 1) + 2) = x.ra := by
 have key : ∀ j, j < 3 -> (3 * (i + 1) + j) / 3 - 1 = i := λ j hj => by omega
 have k2 : ∀ j, j < 3 -> (3 * (i + 1) + j) % 3 = j := λ j hj => by omega
 refine ⟨?_, ?_, ?_⟩
 ·unfold mL; rw [show 3 * (i + 1) = 3 * (i + 1) + 0 from rfl, key 0 (by exact Nat.zero_lt_succ _), k2 0 (by exact Nat.zero_lt_succ _), h]; try rfl
 ·unfold mL; rw [key 1 (by exact Nat.le_succ _), k2 1 (by exact Nat.le_succ _), h]; try rfl
 ·unfold mL; rw [key 2 (by exact Nat.le_refl _), k2 2 (by exact Nat.le_refl _), h]; try rfl
def At (L : List Nd) (i : Nat) (t : T) : Prop := ∀ j, j < t.nodes.length -> L[i + j]? = t.nodes[j]?
theorem At.left {L : List Nd} {i : Nat} {l r : T} {x : Nd} (h : At L i (.N l x r)) : At L i l := λ j hj => by
 rw [h j (by show j < (l.nodes ++ x :: r.nodes).length; rw [List.length_append]; exact Nat.lt_add_right _ (by assumption))]
 show (l.nodes ++ x :: r.nodes)[j]? = _
 rw [List.getElem?_append_left hj]
theorem At.mid {L : List Nd} {i : Nat} {l r : T} {x : Nd} (h : At L i (.N l x r)) : L[i + l.nodes.length]? = some x := by
 rw [h l.nodes.length (by show _ < (l.nodes ++ x :: r.nodes).length; rw [List.length_append, List.length_cons]; lia)]
 show (l.nodes ++ x :: r.nodes)[l.nodes.length]? = _
 rw [List.getElem?_append_right (Nat.le_refl _), Nat.sub_self]; rfl
theorem At.right {L : List Nd} {i : Nat} {l r : T} {x : Nd} (h : At L i (.N l x r)) : At L (i + l.nodes.length + 1) r := λ j hj => by
 have := h (l.nodes.length + 1 + j) (by show _ < (l.nodes ++ x :: r.nodes).length; rw [List.length_append, List.length_cons]; lia)
 rw [show i + l.nodes.length + 1 + j = i + (l.nodes.length + 1 + j) by lia, this]
 show (l.nodes ++ x :: r.nodes)[l.nodes.length + 1 + j]? = _
 rw [List.getElem?_append_right (by lia), show l.nodes.length + 1 + j - l.nodes.length = j + 1 by lia, List.getElem?_cons_succ]
theorem wM {ρ : List Nat} {v o} {tr : Nat} {L : List Nd} (hρ : ρ = tr :: L.map (·.id)) : ∀ {t : T} {i : Nat}, At L i t -> ix ρ v o (lV t.shape (i + 1)).ptr t.ptr
 | .E, _, _ => .none
 | .N l x r, i, h => by
  refine .ref _ _ ?_
  have hm := h.mid
  rw [hρ, T.shape_size l, show i + 1 + l.nodes.length = (i + l.nodes.length) + 1 by exact Nat.add_right_comm .., List.getElem?_cons_succ, List.getElem?_map, hm]; rfl
theorem ro {tr : Nat} {L : List Nd} {cnt : Int} : ∀ {t : T} {i : Nat}, At L i t -> fW (tr :: L.map (·.id)) (iS cnt L) (mL L) (lV t.shape (i + 1)) = t
 | .E, _, _ => rfl
 | .N l x r, i, h => by
  have hm := h.mid
  refine iH (vg (cnt := cnt) hm) λ v1 v2 v3 v4 => ?_
  refine bN (yW hm) λ o1 o2 o3 => ?_
  have e : i + 1 + l.shape.size = (i + l.nodes.length) + 1 := by rw [T.shape_size]; lia
  have hl := ro (tr := tr) (cnt := cnt) h.left
  have hr := ro (tr := tr) (cnt := cnt) h.right
  show T.N (fW _ _ _ (lV l.shape (i + 1))) ⟨_, _, _, _, _, _, _, _, _⟩ (fW _ _ _ (lV r.shape (i + 1 + l.shape.size + 1))) = _
  rw [hl, e, hr]
  congr 1
  simp only [FE.ev, v1, v2, v3, v4, o1, o2, o3, List.getElem?_cons_succ, List.getElem?_map, hm, Option.map_some, Option.getD_some]
theorem jR : ∀ (s : Sh) (i : Nat) (p : FV), ((lV s i).objs p).length = s.size
 | .E, _, _ => rfl
 | .N l c r, i, p => by
  show ((lV l i).objs _ ++ _ :: (lV r _).objs _).length = _
  rw [List.length_append, List.length_cons, jR l, jR r]; show _ = l.size + 1 + r.size; lia
theorem pc {ρ : List Nat} {tr : Nat} {L : List Nd} {cnt : Int} {Z : St} (hρ : ρ = tr :: L.map (·.id)) : ∀ {t : T} {i : Nat} {p : PV} {fp : FV}, At L i t -> Sub Z p t -> ix ρ (iS cnt L) (mL L) fp p -> ∀ (j : Nat) (y : FO), ((lV t.shape (i + 1)).objs fp)[j]? = some y ->
  ∃ a, ρ[i + 1 + j]? = some a /\ ya ρ (iS cnt L) (mL L) y (Z.objs a)
 | .E, _, _, _, _, _, _, j, y, h => by simp [T.shape, lV, RT.objs] at h
 | .N l x r, i, p, fp, h, hs, hp, j, y, hy => by
  refine bN hs λ h1 h2 h3 => ?_
  have hm := h.mid
  refine iH (vg (cnt := cnt) hm) λ v1 v2 v3 v4 => ?_
  refine bN (yW hm) λ o1 o2 o3 => ?_
  have e : i + 1 + l.shape.size = (i + l.nodes.length) + 1 := by rw [T.shape_size]; lia
  have hme : ρ[(i + l.nodes.length) + 1]? = some x.id := by rw [hρ, List.getElem?_cons_succ, List.getElem?_map, hm]; rfl
  have hL : ((lV l.shape (i + 1)).objs (.ref (i + 1 + l.shape.size))).length = l.nodes.length := by rw [jR, T.shape_size]
  have hy' : ((lV l.shape (i + 1)).objs (.ref (i + 1 + l.shape.size)) ++ HD (i + 1 + l.shape.size) (.var (4 * (i + 1 + l.shape.size))) (.var (4 * (i + 1 + l.shape.size) + 1)) (.var (4 * (i + 1 + l.shape.size) + 2)) (.var (4 * (i + 1 + l.shape.size) + 3)) x.red (lV l.shape (i + 1)).ptr (lV r.shape (i + 1 + l.shape.size + 1)).ptr fp :: (lV r.shape (i + 1 + l.shape.size + 1)).objs (.ref (i + 1 + l.shape.size)))[j]? = some y := hy
  rcases Nat.lt_or_ge j l.nodes.length with q | q
  ·rw [List.getElem?_append_left (by rw [hL]; exact q)] at hy'
   exact pc hρ h.left h2 (by rw [e]; exact .ref _ _ hme) j y hy'
  ·rw [List.getElem?_append_right (by rw [hL]; exact q), hL] at hy'
   rcases Nat.eq_or_lt_of_le q with q | q
   ·rw [show j - l.nodes.length = 0 by lia, List.getElem?_cons_zero] at hy'
    cases ej hy'
    refine ⟨x.id, by rw [show i + 1 + j = (i + l.nodes.length) + 1 by lia]; exact hme, ?_⟩
    rw [h1, e]
    refine ⟨rfl, ?_⟩
    have hl := wM (v := iS cnt L) (o := mL L) hρ h.left
    have hr := wM (v := iS cnt L) (o := mL L) hρ h.right
    refine .cons ?_ (.cons (.int _ _ (by rw [<- v1]; rfl)) (.cons (.int _ _ (by rw [<- v2]; rfl)) (.cons ?_ (.cons ?_ (.cons (.int _ _ (by rw [<- v3]; rfl)) (.cons (.int _ _ (by rw [<- v4]; rfl)) (.cons (.bool _) (.cons hl (.cons ?_ (.cons hp .nil))))))))))
    ·rw [<- o1]; exact .opq _
    ·rw [<- o2]; exact .opq _
    ·rw [<- o3]; exact .opq _
    ·have := hr
     rwa [show i + l.nodes.length + 1 + 1 = i + l.nodes.length + 1 + 1 from rfl] at this
   ·rw [show j - l.nodes.length = (j - l.nodes.length - 1) + 1 by lia, List.getElem?_cons_succ] at hy'
    have hr := pc (cnt := cnt) (Z := Z) (p := .ref x.id) (fp := .ref (i + 1 + l.shape.size)) hρ h.right h3 (by rw [e]; exact .ref _ _ hme) (j - l.nodes.length - 1) y (by rw [<- e]; exact hy')
    rw [show i + l.nodes.length + 1 + 1 + (j - l.nodes.length - 1) = i + 1 + j by lia] at hr
    exact hr
theorem o8 {Z : St} {tr : Nat} {t : T} (h : jX Z tr t) : ∃ cnt, gb (tr :: t.ids) (iS cnt t.nodes) (mL t.nodes) (zQ t.shape) Z /\ fW (tr :: t.ids) (iS cnt t.nodes) (mL t.nodes) (lV t.shape 1) = t := by
 refine br h.root λ cnt hc => ?_
 have hat : At t.nodes 0 t := λ j _ => by rw [Nat.zero_add]
 refine cC cnt ⟨?_, h.nodup, h.lt, λ i a x h1 h2 => ?_⟩ (ro hat)
 ·show (tr :: t.ids).length = ((lV t.shape 1).objs .none).length + 1
  rw [jR, T.shape_size]; simp [T.ids]
 ·cases i with
  | zero =>
   cases ej h1; cases ej h2
   rw [hc]
   exact ⟨rfl, .cons (wM rfl hat) (.cons (.int _ _ rfl) .nil)⟩
  | succ i =>
   refine aQ (pc (ρ := tr :: t.ids) (cnt := cnt) (p := .none) (fp := .none) rfl hat h.sub .none i x h2) λ b h3 h4 => ?_
   rw [show 0 + 1 + i = i + 1 by exact Nat.add_comm ..] at h3
   rw [h3] at h1
   cases ej h1; exact h4
theorem C8 {ρ : List Nat} {v o p q x y} (h : FV.sameP p q = true) (hp : ix ρ v o p x) (hq : ix ρ v o q y) : x = y := by
 unfold FV.sameP at h
 split at h
 ·cases hp; cases hq; rfl
 ·rename_i i j
  have : i = j := beq_iff_eq.mp h
  subst this
  cases hp with
  | ref _ a ha => cases hq with
   | ref _ b hb => rw [ha] at hb; cases ej hb; rfl
 ·cases h
theorem jE {α β : Type} {a : Option α} {f : α -> Option β} {r : β} (h : a.bind f = some r) : ∃ x, a = some x /\ f x = some r := Option.bind_eq_some_iff.mp h
theorem Ag {β : Type} {k : FV -> List FV -> Option β} {l : List FV} {r : β} {P : List FV -> Prop} (h : pA k l = some r) (H : ∀ x t, k x t = some r -> P (x :: t)) : P l := by
 cases l with
 | nil => exact bG h
 | cons x t => exact H x t h
theorem EV {β : Type} {r₀ : β} {l : List FV} {r : β} {P : List FV -> Prop} (h : pE r₀ l = some r) (H : r₀ = r -> P []) : P l := by
 cases l with
 | nil => exact H (Option.some.inj h)
 | cons x t => exact bG h
theorem CN {β : Type} {k : Nat -> List FV -> Option β} {l : List FV} {r : β} {P : List FV -> Prop} (h : pO k l = some r) (H : ∀ x t, k x t = some r -> P (.opq x :: t)) : P l := by
 cases l with
 | nil => exact bG h
 | cons x t =>
  cases x with
  | opq a => exact H a t h
  | _ => exact bG h
theorem wT {β : Type} {k : FE -> List FV -> Option β} {l : List FV} {r : β} {P : List FV -> Prop} (h : pI k l = some r) (H : ∀ x t, k x t = some r -> P (.int x :: t)) : P l := by
 cases l with
 | nil => exact bG h
 | cons x t =>
  cases x with
  | int a => exact H a t h
  | _ => exact bG h
theorem G9 {β : Type} {k : Bool -> List FV -> Option β} {l : List FV} {r : β} {P : List FV -> Prop} (h : pB k l = some r) (H : ∀ x t, k x t = some r -> P (.bool x :: t)) : P l := by
 cases l with
 | nil => exact bG h
 | cons x t =>
  cases x with
  | bool a => exact H a t h
  | _ => exact bG h
theorem zx {β : Type} {c : Nat} {k : List FV -> Option β} {y : FO} {r : β} (h : Hy c k y = some r) : ∃ l, y = .inst c l /\ k l = some r := by
 cases y with
 | inst c' l =>
  by_cases q : c' = c
  ·subst q; exact cC l rfl ((if_pos rfl).symm.trans h)
  ·exact nomatch (if_neg q).symm.trans h
 | _ => exact bG h
theorem sA {y : FO} {N : Bg} (h : Dq y = some N) : y = N.fo := by
 refine aQ (zx h) λ _ qq1 h => ?_; obtain rfl := qq1
 apply CN h; clear h; intro _ _ h
 apply wT h; clear h; intro _ _ h
 apply wT h; clear h; intro _ _ h
 apply CN h; clear h; intro _ _ h
 apply CN h; clear h; intro _ _ h
 apply wT h; clear h; intro _ _ h
 apply wT h; clear h; intro _ _ h
 apply G9 h; clear h; intro _ _ h
 apply Ag h; clear h; intro _ _ h
 apply Ag h; clear h; intro _ _ h
 apply Ag h; clear h; intro _ _ h
 apply EV h; intro h; subst h; rfl
section
variable {ρ : List Nat} {v : Nat -> Int} {o : Nat -> PV}
theorem ix.opq_el {x : Nat} {w : PV} {P : PV -> Prop} (h : ix ρ v o (.opq x) w) (H : P (o x)) : P w := by
 generalize hq : FV.opq x = q at h; revert q; refine qQ ?_; intro q hq h
 cases h with
 | opq k => cases hq; exact H
 | _ => cases hq
theorem ix.bool_el {x : Bool} {w : PV} {P : PV -> Prop} (h : ix ρ v o (.bool x) w) (H : P (.bool x)) : P w := by
 generalize hq : FV.bool x = q at h
 cases h with
 | bool k => cases hq; exact H
 | _ => cases hq
theorem cV.el {x : FV} {xs : List FV} {ws : List PV} {P : List PV -> Prop} (h : cV ρ v o (x :: xs) ws) (H : ∀ w t, ix ρ v o x w -> cV ρ v o xs t -> P (w :: t)) : P ws := by
 cases ws with
 | nil => cases h.1
 | cons w ws => exact H w ws (h.2 0 _ _ rfl rfl) ⟨Nat.succ.inj h.1, λ k x p e1 e2 => h.2 (k + 1) x p e1 e2⟩
theorem cV.end {ws : List PV} {P : List PV -> Prop} (h : cV ρ v o [] ws) (H : P []) : P ws := by
 cases ws with
 | nil => exact H
 | cons w ws => cases h.1
theorem cV.int {x : FE} {xs : List FV} {ws : List PV} {P : List PV -> Prop} (h : cV ρ v o (.int x :: xs) ws) (H : ∀ t, cV ρ v o xs t -> P (.int (x.ev v) :: t)) : P ws :=
 h.el λ w t h1 h2 => by
  cases h1 with
  | int _ k hk => rw [hk]; exact H t h2
theorem cV.opq {x : Nat} {xs : List FV} {ws : List PV} {P : List PV -> Prop} (h : cV ρ v o (.opq x :: xs) ws) (H : ∀ t, cV ρ v o xs t -> P (o x :: t)) : P ws :=
 h.el λ w t h1 h2 => ix.opq_el (P := λ w => P (w :: t)) h1 (H t h2)
theorem cV.bool {x : Bool} {xs : List FV} {ws : List PV} {P : List PV -> Prop} (h : cV ρ v o (.bool x :: xs) ws) (H : ∀ t, cV ρ v o xs t -> P (.bool x :: t)) : P ws :=
 h.el λ w t h1 h2 => ix.bool_el (P := λ w => P (w :: t)) h1 (H t h2)
def Bg.ob (v : Nat -> Int) (o : Nat -> PV) (N : Bg) (l r q : PV) : ee := .inst 0 [o N.a, .int (N.b.ev v), .int (N.e.ev v), o N.a1, o N.a2, .int (N.lim.ev v), .int (N.off.ev v), .bool N.red, l, r, q]
structure HQ (ρ : List Nat) (v : Nat -> Int) (o : Nat -> PV) (N : Bg) (x : ee) (l r q : PV) : Prop where
 eq : x = N.ob v o l r q
 l : ix ρ v o N.l l
 r : ix ρ v o N.r r
 q : ix ρ v o N.q q
theorem vp {N : Bg} {x : ee} (h : ya ρ v o N.fo x) : ∃ l r q, HQ ρ v o N x l r q := by
 cases x with
 | inst c ws =>
  obtain ⟨rfl, h⟩ := h
  apply cV.opq h; clear h; intro _ h
  apply cV.int h; clear h; intro _ h
  apply cV.int h; clear h; intro _ h
  apply cV.opq h; clear h; intro _ h
  apply cV.opq h; clear h; intro _ h
  apply cV.int h; clear h; intro _ h
  apply cV.int h; clear h; intro _ h
  apply cV.bool h; clear h; intro _ h
  apply cV.el h; clear h; intro _ _ h1 h
  apply cV.el h; clear h; intro _ _ h2 h
  apply cV.el h; clear h; intro _ _ h3 h
  apply cV.end h; exact ⟨_, _, _, rfl, h1, h2, h3⟩
 | _ => exact h.elim
theorem Ce {x y : FE} (h : Ff x y = true) : x.nf ≠ none /\ ∀ f, x.nf = some f -> ∃ g, y.nf = some g /\ f.same g = true := by
 unfold Ff at h
 cases hx : x.nf with
 | none => rw [hx] at h; cases h
 | some f =>
  rw [hx] at h
  cases hy : y.nf with
  | none => rw [hy] at h; cases h
  | some g => rw [hy] at h; exact ⟨nofun, λ f' e => ⟨g, rfl, by cases ej e; exact h⟩⟩
theorem xO {fs Z} (R : gb ρ v o fs Z) : ∀ {n : Nat} {fp fx : FV} {rt : RT} {p x : PV}, nS fs n fp fx = some rt -> ix ρ v o fp p -> ix ρ v o fx x -> x = (fW ρ v o rt).ptr /\ Sub Z p (fW ρ v o rt) /\ ∀ i ∈ rt.ids, i < ρ.length := by
 intro n
 induction n with
 | zero =>
  intro fp fx rt p x h hp hx
  cases fx with
  | none => cases ej h; cases hx; exact ⟨rfl, trivial, λ i h => by cases h⟩
  | _ => exact bG h
 | succ n ih =>
  intro fp fx rt p x h hp hx
  refine Classical.byContradiction λ hg => ?_
  cases fx with
  | none => cases ej h; cases hx; exact hg ⟨rfl, trivial, λ i h => by cases h⟩
  | ref i =>
   refine aQ (jE h) λ y ho h1 => ?_
   refine aQ (jE h1) λ N hn h2 => ?_
   clear h1 h
   have h := h2
   clear h2
   obtain rfl := sA hn
   split at h
   case isFalse => exact bG h
   rename_i hc
   refine aQ (jE h) λ tl hl h => ?_
   refine aQ (jE h) λ trr hr h => ?_
   cases ej h
   cases hx with
   | ref _ ad had =>
   rw [Bool.and_eq_true, Bool.and_eq_true, Bool.and_eq_true] at hc
   refine bK hc λ qq3 hq => ?_; obtain ⟨⟨c1, c2⟩, c3⟩ := qq3
   refine Af (vp (R.obj i ad _ had ho)) λ pl pr pq K => ?_
   have hpp := C8 hq hp K.q
   refine bN (ih hl (.ref i ad had) K.l) λ l1 l2 l3 => ?_
   refine bN (ih hr (.ref i ad had) K.r) λ r1 r2 r3 => ?_
   have hid : (ρ[i]?).getD 0 = ad := by rw [had]; rfl
   refine hg ⟨congrArg PV.ref hid.symm, ⟨(congrArg Z.objs hid).trans (K.eq.trans ?_), ?_, ?_⟩, λ j hj => ?_⟩
   ·rw [l1, r1, hpp]; unfold Bg.ob; rw [beq_iff_eq.mp c1, beq_iff_eq.mp c2, beq_iff_eq.mp c3]; rfl
   ·rw [hid]; exact l2
   ·rw [hid]; exact r2
   ·rcases List.mem_append.mp hj with q | q
    ·exact l3 j q
    ·rcases List.mem_cons.mp q with q | q
     ·rw [q]; exact (List.getElem?_eq_some_iff.mp had).1
     ·exact r3 j q
  | _ => exact bG h
end
theorem zK (v : Nat -> Int) (k : Nat) : ∀ l : List Nat, (Ax k l).foldr (λ k s => v k + s) 0 = v k + l.foldr (λ k s => v k + s) 0
 | [] => rfl
 | j :: l => by
  unfold Ax
  split
  ·rfl
  ·show v j + (Ax k l).foldr _ 0 = v k + (v j + l.foldr _ 0)
   rw [zK v k l]; exact Int.add_left_comm ..
theorem pi (v : Nat -> Int) : ∀ x y : List Nat, (sC x y).foldr (λ k s => v k + s) 0 = x.foldr (λ k s => v k + s) 0 + y.foldr (λ k s => v k + s) 0
 | [], y => by show _ = 0 + _; rw [Int.zero_add]; rfl
 | k :: x, y => by
  show (Ax k (sC x y)).foldr _ 0 = v k + x.foldr _ 0 + _
  rw [zK, pi v x y]; exact (Int.add_assoc ..).symm
theorem LF.val_plus (v : Nat -> Int) (a b : LF) : (a.plus b).val v = a.val v + b.val v := by
 unfold LF.plus LF.val
 dsimp only
 rw [pi]; lia
theorem FE.nf_ok (v : Nat -> Int) : ∀ {e : FE} {f : LF}, e.nf = some f -> e.ev v = f.val v
 | .var k, f, h => by cases ej h; show v k = v k + 0 + 0; lia
 | .lit k, f, h => by cases ej h; show k = 0 + k; lia
 | .add a b, f, h => by
  unfold FE.nf at h
  split at h
  ·rename_i x y hx hy
   cases ej h
   rw [LF.val_plus, <- FE.nf_ok v hx, <- FE.nf_ok v hy]; rfl
  ·exact bG h
 | .mx _ _, _, h => by exact bG h
theorem FE.nfm_ok (v : Nat -> Int) : ∀ e : FE, (∀ f ∈ e.nfm, f.val v <= e.ev v) /\ ∃ f ∈ e.nfm, f.val v = e.ev v
 | .var k => ⟨λ f h => by rw [List.mem_singleton.mp h]; show v k + 0 + 0 <= v k; lia, _, List.mem_singleton.mpr rfl, by show v k + 0 + 0 = v k; exact Int.add_sub_cancel ..⟩
 | .lit k => ⟨λ f h => by rw [List.mem_singleton.mp h]; show 0 + k <= k; lia, _, List.mem_singleton.mpr rfl, by show 0 + k = k; exact Int.zero_add ..⟩
 | .add a b => by
  obtain ⟨a1, fa, a2, a3⟩ := FE.nfm_ok v a
  obtain ⟨b1, fb, b2, b3⟩ := FE.nfm_ok v b
  refine ⟨λ f h => ?_, fa.plus fb, ?_, ?_⟩
  ·refine aQ (List.mem_flatMap.mp h) λ x hx h => ?_
   refine aQ (List.mem_map.mp h) λ y hy qq4 => ?_; obtain rfl := qq4
   rw [LF.val_plus]
   have := a1 x hx
   have := b1 y hy
   show _ <= a.ev v + b.ev v; lia
  ·exact List.mem_flatMap.mpr ⟨fa, a2, List.mem_map.mpr ⟨fb, b2, rfl⟩⟩
  ·rw [LF.val_plus, a3, b3]; rfl
 | .mx a b => by
  obtain ⟨a1, fa, a2, a3⟩ := FE.nfm_ok v a
  obtain ⟨b1, fb, b2, b3⟩ := FE.nfm_ok v b
  have hm : (FE.mx a b).ev v = if b.ev v > a.ev v then b.ev v else a.ev v := rfl
  refine ⟨λ f h => ?_, ?_⟩
  ·rw [hm]
   rcases List.mem_append.mp h with h | h
   ·have := a1 f h; split <;> lia
   ·have := b1 f h; split <;> lia
  ·rw [hm]
   split
   ·exact ⟨fb, List.mem_append_right _ b2, b3⟩
   ·exact ⟨fa, List.mem_append_left _ a2, a3⟩
theorem LF.same_ok {a b : LF} (h : a.same b = true) : a = b := by
 unfold LF.same at h
 rw [Bool.and_eq_true] at h
 exact Prod.ext (beq_iff_eq.mp h.1) (beq_iff_eq.mp h.2)
theorem uD (v : Nat -> Int) (k : Nat) : ∀ l : List Nat, k ∈ l -> l.foldr (λ k s => v k + s) 0 = v k + (l.erase k).foldr (λ k s => v k + s) 0
 | j :: l, h => by
  by_cases q : j = k
  ·subst q; rw [List.erase_cons_head]; rfl
  ·rw [List.erase_cons_tail (by simpa using q)]
   show v j + l.foldr _ 0 = v k + (v j + (l.erase k).foldr _ 0)
   have hm : k ∈ l := by
    rcases List.mem_cons.mp h with h | h
    ·exact absurd h.symm q
    ·exact h
   rw [uD v k l hm]; exact Int.add_left_comm ..
theorem LF.dom_ok {v : Nat -> Int} {F : List (List Nat × Nat)} (hF : ∀ p ∈ F, p.1.foldr (λ k s => v k + s) 0 <= v p.2) : ∀ {n : Nat} {f g : LF}, f.dom F n g = true -> f.val v <= g.val v := by
 intro n
 induction n with
 | zero => intro f g h; rw [LF.same_ok h]; exact Int.le_refl _
 | succ n ih =>
  intro f g h
  unfold LF.dom at h
  rw [Bool.or_eq_true] at h
  rcases h with h | h
  ·rw [LF.same_ok h]; exact Int.le_refl _
  ·refine aQ (List.any_eq_true.mp h) λ p hp h => ?_
   rw [Bool.and_eq_true] at h
   have h1 := ih h.2
   have hm : p.2 ∈ g.1 := List.contains_iff_mem.mp h.1
   have h2 := hF p hp
   have h3 := uD v p.2 g.1 hm
   unfold LF.val at h1 |-
   dsimp only at h1
   rw [pi] at h1
   omega
theorem FE.le_ok {v : Nat -> Int} {F : List (List Nat × Nat)} (hF : ∀ p ∈ F, p.1.foldr (λ k s => v k + s) 0 <= v p.2) {a b : FE} (h : a.le F b = true) : a.ev v <= b.ev v := by
 obtain ⟨_, f, hf, e⟩ := FE.nfm_ok v a
 refine bK (FE.nfm_ok v b) λ b1 _ => ?_
 refine aQ (List.any_eq_true.mp (List.all_eq_true.mp h f hf)) λ g hg hd => ?_
 have := LF.dom_ok hF hd
 have := b1 g hg
 lia
theorem BG {ρ : List Nat} {v : Nat -> Int} {o : Nat -> PV} {F : List (List Nat × Nat)} (hF : ∀ p ∈ F, p.1.foldr (λ k s => v k + s) 0 <= v p.2) : ∀ {rt : RT}, rt.ubOk F = true -> (fW ρ v o rt).UB
 | .E, _ => trivial
 | .N l id b e lim off red r, h => by
  have topOk : ∀ (t : RT) (m : Int), (match t.top with | some m => m.le F lim | none => true) = true -> (fW ρ v o t).top = some m -> m <= lim.ev v := by
   intro t m h1 h2
   cases t with
   | E => exact bG h2
   | N l' id' b' e' lim' off' red' r' =>
    cases ej h2
    exact FE.le_ok hF (a := .add lim' off') h1
  unfold RT.ubOk at h
  simp only [Bool.and_eq_true] at h
  obtain ⟨⟨⟨⟨h1, h2⟩, h3⟩, h4⟩, h5⟩ := h
  exact ⟨FE.le_ok hF h1, λ m hm => topOk l m h2 hm, λ m hm => topOk r m h3 hm, BG hF h4, BG hF h5⟩
theorem rX {L : List Nd} {cnt : Int} : ∀ {t : T} {i : Nat}, At L i t -> t.UB -> ∀ p ∈ iF t.shape (i + 1), p.1.foldr (λ k s => iS cnt L k + s) 0 <= iS cnt L p.2
 | .E, _, _, _, p, hp => by cases hp
 | .N l x r, i, h, hu, p, hp => by
  refine iW hu λ u1 u2 u3 u4 u5 => ?_
  have hm := h.mid
  refine iH (vg (cnt := cnt) hm) λ v1 v2 v3 v4 => ?_
  have e : i + 1 + l.shape.size = (i + l.nodes.length) + 1 := by rw [T.shape_size]; exact Nat.add_right_comm ..
  have topOk : ∀ (t : T) (j : Nat), At L j t -> (∀ m, t.top = some m -> m <= x.lim) -> ∀ m ∈ Fj t.shape (j + 1), m.foldr (λ k s => iS cnt L k + s) 0 <= x.lim := by
   intro t j hj ht m hm'
   cases t with
   | E => cases hm'
   | N l' x' r' =>
    have hm2 := hj.mid
    refine iH (vg (cnt := cnt) hm2) λ w1 w2 w3 w4 => ?_
    have e' : j + 1 + l'.shape.size = (j + l'.nodes.length) + 1 := by rw [T.shape_size]; exact Nat.add_right_comm ..
    have hm3 : m = [4 * (j + 1 + l'.shape.size) + 2, 4 * (j + 1 + l'.shape.size) + 3] := List.mem_singleton.mp hm'
    rw [hm3, e']
    show iS cnt L _ + (iS cnt L _ + 0) <= _
    rw [w3, w4]
    have := ht _ rfl
    lia
  unfold T.shape iF at hp
  rw [e] at hp
  rcases List.mem_append.mp hp with hp | hp
  ·rcases List.mem_append.mp hp with hp | hp
   ·rcases List.mem_cons.mp hp with rfl | hp
    ·show iS cnt L _ + 0 <= iS cnt L _
     rw [v2, v3]; lia
    ·refine aQ (List.mem_map.mp hp) λ m hm' qq6 => ?_; obtain rfl := qq6
     show _ <= iS cnt L _
     rw [v3]
     rcases List.mem_append.mp hm' with hm' | hm'
     ·exact topOk l i h.left u2 m hm'
     ·exact topOk r _ h.right u3 m hm'
   ·exact rX h.left u4 p hp
  ·exact rX h.right u5 p hp
theorem my {ρ : List Nat} {v : Nat -> Int} {o : Nat -> PV} : ∀ (rt : RT) (acc : FE), (fW ρ v o rt).inord (acc.ev v) = (rt.eff acc).map (iT ρ v o)
 | .E, _ => rfl
 | .N l id b e lim off red r, acc => by
  show (fW ρ v o l).inord _ ++ _ :: (fW ρ v o r).inord _ = _
  rw [show acc.ev v + off.ev v = (FE.add acc off).ev v from rfl, my l, my r]
  show _ = List.map _ (_ ++ _ :: _)
  rw [List.map_append, List.map_cons]; rfl
theorem wO (v : Nat -> Int) {x y : FE} (h : Ff x y = true) : x.ev v = y.ev v := by
 cases hx : x.nf with
 | none => exact absurd hx (Ce h).1
 | some f => refine aQ ((Ce h).2 f hx) λ g hg k => ?_; rw [FE.nf_ok v hx, FE.nf_ok v hg, LF.same_ok k]
theorem Cw {ρ : List Nat} {v : Nat -> Int} {o : Nat -> PV} {a b : Nat × FE × FE} (h : Bv a b = true) : iT ρ v o a = iT ρ v o b := by
 unfold Bv at h
 rw [Bool.and_eq_true, Bool.and_eq_true] at h
 refine bK h λ qq7 h3 => ?_; obtain ⟨h1, h2⟩ := qq7
 unfold iT
 rw [beq_iff_eq.mp h1, wO v h2, wO v h3]
theorem uK {ρ : List Nat} {v : Nat -> Int} {o : Nat -> PV} : ∀ {a b : List (Nat × FE × FE)}, sJ a b = true -> a.map (iT ρ v o) = b.map (iT ρ v o)
 | [], [], _ => rfl
 | x :: a, y :: b, h => by
  unfold sJ at h
  rw [Bool.and_eq_true] at h
  rw [List.map_cons, List.map_cons, Cw h.1, uK h.2]
 | [], _ :: _, h => by cases h
 | _ :: _, [], h => by cases h
end
structure xU (Z : St) (ids : List Nat) (Z' : St) : Prop where
 next : Z.next <= Z'.next
 old : ∀ a, a < Z.next -> a ∉ ids -> Z'.objs a = Z.objs a
theorem xU.refl {Z : St} {ids : List Nat} : xU Z ids Z := ⟨Nat.le_refl _, λ _ _ _ => rfl⟩
theorem xU.trans {Z Z' Z'' : St} {ids ids' : List Nat} (h : xU Z ids Z') (k : xU Z' ids' Z'') (hs : ∀ a, a < Z.next -> a ∈ ids' -> a ∈ ids) : xU Z ids Z'' :=
 ⟨Nat.le_trans h.next k.next, λ a h1 h2 => (k.old a (Nat.lt_of_lt_of_le h1 h.next) λ q => h2 (hs a h1 q)).trans (h.old a h1 h2)⟩
theorem mS.far {ρ ρ' : List Nat} {Z Z' : St} (k : mS ρ Z ρ' Z') : xU Z ρ Z' := ⟨k.next, k.old⟩
theorem vZ : ∀ (s : Sh) (b : Nat), (lV s b).ids = List.range' b s.size
 | .E, b => rfl
 | .N l c r, b => by
  show (lV l b).ids ++ (b + l.size) :: (lV r _).ids = List.range' b (l.size + 1 + r.size)
  rw [vZ l, vZ r, <- List.range'_append_1 (s := b) (m := l.size + 1), <- List.range'_append_1 (s := b) (m := l.size) (n := 1), List.append_assoc]
  rfl
theorem wK : ∀ (t : RT) (acc : FE), (t.eff acc).map (·.1) = t.ids
 | .E, _ => rfl
 | .N l id b e lim off red r, acc => by
  show (l.eff _ ++ _ :: r.eff _).map _ = l.ids ++ id :: r.ids
  rw [List.map_append, List.map_cons, wK l, wK r]
theorem m8 {α β : Type} (f : α -> β) : ∀ (l : List α) (k : Nat), (l.eraseIdx k).map f = (l.map f).eraseIdx k
 | [], _ => rfl
 | _ :: _, 0 => rfl
 | a :: l, k + 1 => by show f a :: (l.eraseIdx k).map f = f a :: (l.map f).eraseIdx k; rw [m8 f l k]
theorem wx {s : Sh} {old : List (Nat × FE × FE)} {fs : FS} (h : j6 s old fs = true) : ∃ rt, wc fs = some rt /\ (sJ (rt.eff (.lit 0)) old && rt.ubOk (iF s 1) && GN rt.shape) = true := by
 unfold j6 at h
 cases e : wc fs with
 | none => rw [e] at h; cases h
 | some rt => rw [e] at h; exact cC rt rfl h
theorem zq {fs : FS} {rt : RT} (h : wc fs = some rt) : ∃ x ec rest, fs = .inst 1 [x, .int ec] :: rest /\ nS fs 8 .none x = some rt := by
 refine aQ (jE h) λ x hx h => ?_
 cases fs with
 | nil => exact bG hx
 | cons y rest =>
  refine aQ (zx hx) λ l hl h2 => ?_
  subst hl
  refine ⟨x, ?_⟩
  clear hx
  revert h
  apply Ag h2; clear h2; intro _ _ h
  apply wT h; clear h; intro _ _ h
  apply EV h; intro h; subst h; exact λ h => ⟨_, rest, rfl, h⟩
theorem Dy {ρ : List Nat} {v : Nat -> Int} {o : Nat -> PV} {x : FV} {e : FE} {ws : List PV} (h : cV ρ v o [x, .int e] ws) : ∃ w k, ws = [w, .int k] /\ ix ρ v o x w := by
 apply cV.el h; clear h; intro w _ h1 h
 apply cV.int h; clear h; intro _ h
 apply cV.end h; exact lW w _ rfl h1
theorem vc {Z Z' : St} {tr : Nat} {t : T} {cnt : Int} {fs : FS} {ρ' : List Nat} {old : List (Nat × FE × FE)} (h : jX Z tr t) (hub : t.UB) (R : gb ρ' (iS cnt t.nodes) (mL t.nodes) fs Z') (K : mS (tr :: t.ids) Z ρ' Z')
  (hsub : old.Sublist ((lV t.shape 1).eff (.lit 0))) (hg : j6 t.shape old fs = true) (hconc : fW (tr :: t.ids) (iS cnt t.nodes) (mL t.nodes) (lV t.shape 1) = t) :
  ∃ t', jX Z' tr t' /\ t'.shape ∈ LS /\ t'.inord 0 = old.map (iT (tr :: t.ids) (iS cnt t.nodes) (mL t.nodes)) /\ t'.UB := by
 refine aQ (wx hg) λ rt hrt hg => ?_
 rw [Bool.and_eq_true, Bool.and_eq_true] at hg
 refine bK hg λ qq1 g3 => ?_; obtain ⟨g1, g2⟩ := qq1
 refine iV (zq hrt) λ x ec rest qq2 hrt => ?_; obtain rfl := qq2
 have h0 : ρ'[0]? = some tr := K.pre 0 tr rfl
 have O := R.obj 0 tr _ h0 rfl
 cases hob : Z'.objs tr with
 | inst c ws =>
  rw [hob] at O
  refine bK O λ qq3 hv => ?_; obtain rfl := qq3
  refine jn (Dy hv) λ w0 kk qq4 f0 => ?_; obtain rfl := qq4
  refine bN (xO R hrt .none f0) λ e1 e2 e3 => ?_
  have hin : ∀ a ∈ old, ∃ y, (tr :: t.ids)[a.1]? = some y := by
   intro a ha
   have ha2 : a.1 ∈ (lV t.shape 1).ids := by rw [<- wK]; exact List.mem_map_of_mem (hsub.subset ha)
   rw [vZ, List.mem_range'_1, T.shape_size] at ha2
   have : a.1 < (tr :: t.ids).length := by simp [T.ids]; lia
   exact ⟨_, List.getElem?_eq_getElem this⟩
  have hcI : old.map (iT ρ' (iS cnt t.nodes) (mL t.nodes)) = old.map (iT (tr :: t.ids) (iS cnt t.nodes) (mL t.nodes)) := by
   apply List.map_congr_left
   intro a ha
   refine br (hin a ha) λ y hy => ?_
   unfold iT
   rw [hy, K.pre _ _ hy]
  have hord : (fW ρ' (iS cnt t.nodes) (mL t.nodes) rt).inord 0 = old.map (iT (tr :: t.ids) (iS cnt t.nodes) (mL t.nodes)) := by
   have := my (ρ := ρ') (v := iS cnt t.nodes) (o := mL t.nodes) rt (.lit 0)
   rw [show (FE.lit 0).ev (iS cnt t.nodes) = 0 from rfl] at this
   rw [this, uK g1, hcI]
  have hidsub : (fW ρ' (iS cnt t.nodes) (mL t.nodes) rt).ids.Sublist t.ids := by
   have hA : (fW ρ' (iS cnt t.nodes) (mL t.nodes) rt).ids = (old.map (iT (tr :: t.ids) (iS cnt t.nodes) (mL t.nodes))).map (·.id) := by rw [<- T.inord_ids 0, hord]
   have this := my (ρ := tr :: t.ids) (v := iS cnt t.nodes) (o := mL t.nodes) (lV t.shape 1) (.lit 0)
   rw [hconc, show (FE.lit 0).ev (iS cnt t.nodes) = 0 from rfl] at this
   have hB : t.ids = (((lV t.shape 1).eff (.lit 0)).map (iT (tr :: t.ids) (iS cnt t.nodes) (mL t.nodes))).map (·.id) := (T.inord_ids 0 t).symm.trans (congrArg (List.map (·.id)) this)
   have hC := (List.Sublist.map (iT (tr :: t.ids) (iS cnt t.nodes) (mL t.nodes)) hsub).map (·.id)
   rw [<- hB, <- hA] at hC
   exact hC
  have hshape : ∀ r : RT, (fW ρ' (iS cnt t.nodes) (mL t.nodes) r).shape = r.shape := by
   intro r
   induction r with
   | E => rfl
   | N l id b e lim off red r ih1 ih2 =>
    show Sh.N (fW _ _ _ l).shape red (fW _ _ _ r).shape = Sh.N l.shape red r.shape
    rw [ih1, ih2]
  refine ⟨fW ρ' (iS cnt t.nodes) (mL t.nodes) rt, ⟨?_, e2, ?_, ?_⟩, ?_, hord, BG (λ p hp => ?_) g2⟩
  ·exact ⟨kk, by rw [hob, e1]⟩
  ·exact h.nodup.sublist (List.Sublist.cons_cons _ hidsub)
  ·intro a ha
   refine Nat.lt_of_lt_of_le (h.lt a ?_) K.next
   rcases List.mem_cons.mp ha with q | q
   ·rw [q]; exact List.mem_cons_self ..
   ·exact List.mem_cons_of_mem _ (hidsub.subset q)
  ·rw [hshape]; exact List.contains_iff_mem.mp g3
  ·exact rX (i := 0) (λ j _ => by rw [Nat.zero_add]) hub p hp
 | _ => rw [hob] at O; exact O.elim
theorem mH {t : T} {cnt : Int} {tr : Nat} (hconc : fW (tr :: t.ids) (iS cnt t.nodes) (mL t.nodes) (lV t.shape 1) = t) : ((lV t.shape 1).eff (.lit 0)).map (iT (tr :: t.ids) (iS cnt t.nodes) (mL t.nodes)) = t.inord 0 := by
 have := my (ρ := tr :: t.ids) (v := iS cnt t.nodes) (o := mL t.nodes) (lV t.shape 1) (.lit 0)
 rw [hconc, show (FE.lit 0).ev (iS cnt t.nodes) = 0 from rfl] at this
 exact this.symm
theorem wm {s : Sh} (h : s ∈ LS) : s.size <= 6 := by
 have : LS.all (λ s => decide (s.size <= 6)) = true := by decide +kernel
 have := List.all_eq_true.mp this s h
 simpa using this
theorem ry {s : Sh} (h : s ∈ LS) {k : Nat} (hk : k < s.size) : pa s k = true /\ wh s k = true := by
 have := EW s h
 unfold fC at this
 rw [Bool.and_eq_true] at this
 have := List.all_eq_true.mp this.1 k (List.mem_range.mpr hk)
 rwa [Bool.and_eq_true] at this
theorem AW {s : Sh} (h : s ∈ LS) {k : Nat} (h1 : 1 <= s.size) (h5 : s.size <= 5) (hk : k <= s.size) : rj s k = true := by
 have := EW s h
 unfold fC at this
 rw [Bool.and_eq_true] at this
 have := this.2
 rw [Bool.or_eq_true, Bool.or_eq_true] at this
 rcases this with (q | q) | q
 ·have : s.size = 0 := beq_iff_eq.mp q
  lia
 ·have : 5 < s.size := by simpa using q
  lia
 ·exact List.all_eq_true.mp q k (List.mem_range.mpr (by exact Nat.lt_succ_of_le (by assumption)))
theorem Ep {ρ : List Nat} {v : Nat -> Int} {o : Nat -> PV} {i j a b : Nat} (h1 : ρ[i]? = some a) (h2 : ρ[j]? = some b) : cV ρ v o [.ref i, .ref j] [.ref a, .ref b] := .cons (.ref _ _ h1) (.cons (.ref _ _ h2) .nil)
theorem yt {Z : St} {tr : Nat} {t : T} {s : Sh} {k id : Nat} (h : jX Z tr t) (hub : t.UB) (hs : s ∈ LS) (h1 : 1 <= s.size) (h5 : s.size <= 5) (hk : k <= s.size) (hsh : t.shape = lu s k) (hid : t.ids[k]? = some id) :
  ∃ p Z' t', dj [.ref tr, .ref id] Z = some (p, Z') /\ jX Z' tr t' /\ t'.shape ∈ LS /\ t'.inord 0 = t.inord 0 /\ t'.UB /\ xU Z (tr :: t.ids) Z' := by
 refine aQ (o8 h) λ cnt R hconc => ?_
 have hc := AW hs h1 h5 hk
 unfold rj at hc
 rw [<- hsh] at hc
 split at hc
 case h_2 => cases hc
 rename_i x fs hrun
 refine kz (nD _ _ _ _ _ _ _ (Ep (i := 0) (j := k + 1) (a := tr) (b := id) rfl hid) R _ _ hrun) λ ρ' p Z' e R' K _ => ?_
 refine ke (vc h hub R' K (List.Sublist.refl _) hc hconc) λ t' a1 a2 a3 a4 => ?_
 exact yl p Z' t' e a1 a2 (by rw [a3, mH hconc]) a4 K.far
theorem uP {t : T} {k id : Nat} (hid : t.ids[k]? = some id) : ∃ x, t.nodes[k]? = some x /\ x.id = id := by
 unfold T.ids at hid
 rw [List.getElem?_map] at hid
 refine aQ (Option.map_eq_some_iff.mp hid) λ x h1 h2 => ?_
 exact cC x h1 h2
theorem wf {α : Type} {o : Option α} {f : α -> Bool} (h : o.any f = true) : ∃ x, o = some x /\ f x = true := by
 cases o with
 | none => cases h
 | some x => exact cC x rfl h
theorem sF {ρ : List Nat} {v : Nat -> Int} {o : Nat -> PV} {x : FV} {w : PV} (h : x.isN = true) (h2 : ix ρ v o x w) : w = .none := by
 cases h2 <;> first | rfl | exact Bool.noConfusion h
theorem AX {Z : St} {tr : Nat} {t : T} {k id : Nat} (h : jX Z tr t) (hub : t.UB) (hs : t.shape ∈ LS) (hid : t.ids[k]? = some id) :
  ∃ p Z' t', fD [.ref tr, .ref id] Z = some (p, Z') /\ jX Z' tr t' /\ t'.shape ∈ LS /\ t'.inord 0 = (t.inord 0).eraseIdx k /\ t'.UB /\ xU Z (tr :: t.ids) Z' /\
   ∃ x b e l o r, t.nodes[k]? = some x /\ Z'.objs id = .inst 0 [x.num, .int b, .int e, x.fa, x.ra, .int l, .int o, .bool r, .none, .none, .none] := by
 refine aQ (o8 h) λ cnt R hconc => ?_
 refine aQ (uP hid) λ x hx hxid => ?_
 have hk : k < t.shape.size := by rw [T.shape_size]; exact (List.getElem?_eq_some_iff.mp hx).1
 have hc := (ry hs hk).1
 unfold pa at hc
 split at hc
 case h_2 => cases hc
 rename_i y fs hrun
 rw [Bool.and_eq_true] at hc
 refine kz (wb _ _ _ _ _ _ _ (Ep (i := 0) (j := k + 1) (a := tr) (b := id) rfl hid) R _ _ hrun) λ ρ' p Z' e R' K _ => ?_
 refine ke (vc h hub R' K (List.eraseIdx_sublist _ _) hc.1 hconc) λ t' a1 a2 a3 a4 => ?_
 refine ES p Z' t' e a1 a2 ?_ a4 K.far ?_
 ·rw [a3, <- mH hconc]
  exact m8 _ _ _
 ·refine aQ (wf hc.2) λ N hN hl => ?_
  refine aQ (jE hN) λ y ho hN => ?_
  obtain rfl := sA hN
  refine Af (vp (R'.obj (k + 1) id _ (K.pre _ _ hid) ho)) λ pl pr pq J => ?_
  unfold uA at hl
  rw [Bool.and_eq_true, Bool.and_eq_true, Bool.and_eq_true, Bool.and_eq_true, Bool.and_eq_true] at hl
  refine bK hl λ qq5 l6 => ?_; obtain ⟨⟨⟨⟨l1, l2⟩, l3⟩, l4⟩, l5⟩ := qq5
  refine bN (yW hx) λ o1 o2 o3 => ?_
  refine He x (N.b.ev (iS cnt t.nodes)) (N.e.ev (iS cnt t.nodes)) (N.lim.ev (iS cnt t.nodes)) (N.off.ev (iS cnt t.nodes)) N.red hx (J.eq.trans ?_)
  unfold Bg.ob
  rw [beq_iff_eq.mp l1, beq_iff_eq.mp l2, beq_iff_eq.mp l3, sF l4 J.l, sF l5 J.r, sF l6 J.q, o1, o2, o3]
theorem Dl {Z : St} {tr : Nat} {t : T} {k id : Nat} (h : jX Z tr t) (hub : t.UB) (hs : t.shape ∈ LS) (hid : t.ids[k]? = some id) :
  ∃ p Z' t', dH [.ref id] Z = some (p, Z') /\ jX Z' tr t' /\ t'.shape ∈ LS /\ t'.inord 0 = t.inord 0 /\ t'.UB /\ xU Z (tr :: t.ids) Z' /\
   ∃ it ws, (t.inord 0)[k]? = some it /\ Z'.objs id = .inst 0 ws /\ ws[1]? = some (.int it.b) /\ ws[2]? = some (.int it.e) := by
 refine aQ (o8 h) λ cnt R hconc => ?_
 refine aQ (uP hid) λ x hx hxid => ?_
 have hk : k < t.shape.size := by rw [T.shape_size]; exact (List.getElem?_eq_some_iff.mp hx).1
 have hc := (ry hs hk).2
 unfold wh at hc
 split at hc
 case h_2 => cases hc
 rename_i y fs hrun
 rw [Bool.and_eq_true] at hc
 refine kz (lq _ _ _ _ _ _ _ (.cons (.ref (k + 1) id hid) .nil) R _ _ hrun) λ ρ' p Z' e R' K _ => ?_
 refine ke (vc h hub R' K (List.Sublist.refl _) hc.1 hconc) λ t' a1 a2 a3 a4 => ?_
 refine ES p Z' t' e a1 a2 (by rw [a3, mH hconc]) a4 K.far ?_
 refine aQ (wf hc.2) λ a ha hl => ?_
 refine aQ (wf hl) λ N hN hl => ?_
 refine aQ (jE hN) λ y ho hN => ?_
 obtain rfl := sA hN
 refine Af (vp (R'.obj (k + 1) id _ (K.pre _ _ hid) ho)) λ pl pr pq J => ?_
 unfold z0 at hl
 rw [Bool.and_eq_true] at hl
 refine qh (iT (tr :: t.ids) (iS cnt t.nodes) (mL t.nodes) a) _ ?_ J.eq ?_ ?_
 ·rw [<- mH hconc, List.getElem?_map, ha]; rfl
 ·show some (PV.int (N.b.ev _)) = _
  rw [<- wO _ hl.1]; rfl
 ·show some (PV.int (N.e.ev _)) = _
  rw [<- wO _ hl.2]; rfl
section
section
variable {a b : ag -> M PV} {c : ag -> M Bool} {m ma : ag -> M (List PV)} {s t : ag -> M (FR × ag)} {fr fr1 : ag} {Z Z0 Z1 Z2 : St} {x y v p : PV} {vs ws : List PV}
theorem ei {α β : Type} (a : α) (Z : St) (f : α -> St -> Option (β × St)) : cb (some (a, Z)) f = f a Z := rfl
theorem aD {r} (h : s fr Z = some ((.next, fr1), Z1)) (k : t fr1 Z1 = r) : ai s t fr Z = r := (aG h).trans k
theorem av {r} (h : s fr Z = some ((.next, fr), Z1)) (k : t fr Z1 = r) : ai s t fr Z = r := (aG h).trans k
theorem bv (h : s fr Z = some ((.ret v, fr1), Z1)) : ai s t fr Z = some ((.ret v, fr1), Z1) := aG h
theorem bo {F : List PV -> M PV} {r} (hm : m fr Z = some (vs, Z0)) (hF : F vs Z0 = r) : ap F m fr Z = r := (aG hm).trans hF
theorem BS (h : a fr Z = some (p, Z1)) : bi a fr Z = some ((.next, fr), Z1) := aG h
theorem cv {F : List PV -> M PV} (hm : m fr Z = some (vs, Z0)) (hF : F vs Z0 = some (p, Z1)) : bi (ap F m) fr Z = some ((.next, fr), Z1) := aG (bo hm hF)
theorem bZ : aj fr Z = some ([], Z) := rfl
theorem aI (h : a fr Z = some (x, Z1)) (k : m fr Z1 = some (vs, Z2)) : ac a m fr Z = some (x :: vs, Z2) := (aG h).trans (aG k)
theorem aB {tbl : List (Nat × Nat)} {i c k : Nat} (ha : a fr Z0 = some (.ref i, Z)) (ho : Z.objs i = .inst c vs) (hk : tbl.lookup c = some k) (hv : vs[k]? = some v) : ak tbl a fr Z0 = some (v, Z) := by
 rw [oT, aG ha]
 unfold dU
 simp only [ho, hk, hv]; rfl
def CY (tbl : List (Nat × Nat)) (c : Nat) (vs : List PV) (v : PV) : Option ee := match tbl.lookup c with
 | some k => if k < vs.length then some (.inst c (vs.set k v)) else if k = vs.length /\ k < 100 then some (.inst c (vs ++ [v])) else none
 | none => none
theorem D9 {tbl : List (Nat × Nat)} {i c : Nat} {o : ee} (ho : Z.objs i = .inst c vs) (hr : CY tbl c vs v = some o) : fZ tbl (.ref i) v Z = some (Z.set i o) := by
 unfold CY at hr
 unfold fZ
 simp only [ho]
 cases hk : tbl.lookup c with
 | none => rw [hk] at hr; exact bG hr
 | some k =>
  rw [hk] at hr
  dsimp only at hr |-
  split at hr
  ·rename_i q; cases ej hr; rw [if_pos q]
  ·rename_i q
   split at hr
   ·rename_i q2; cases ej hr; rw [if_neg q, if_pos q2]
   ·exact bG hr
theorem cr {tbl : List (Nat × Nat)} {i c : Nat} {o : ee} (hb : b fr Z0 = some (v, Z1)) (ha : a fr Z1 = some (.ref i, Z)) (ho : Z.objs i = .inst c vs) (hr : CY tbl c vs v = some o) : am tbl a b fr Z0 = some ((.next, fr), Z.set i o) := by
 rw [l8, aG hb, aG ha, D9 ho hr]; rfl
theorem fA {k : Nat} (h : a fr Z = some (v, Z1)) : aF k a fr Z = some ((.next, fr.set k (some v)), Z1) := aG h
theorem mD (h : a fr Z = some (v, Z1)) : cJ a fr Z = some ((.ret v, fr), Z1) := aG h
theorem jN {f : PV -> PV -> M PV} {r} (ha : a fr Z = some (x, Z1)) (hb : b fr Z1 = some (y, Z2)) (ho : f x y Z2 = r) : bA f a b fr Z = r := (aG ha).trans ((aG hb).trans ho)
theorem jK {k l : Int} (ha : a fr Z = some (.int k, Z1)) (hb : b fr Z1 = some (.int l, Z2)) : bA dq a b fr Z = some (.int (k + l), Z2) := jN ha hb rfl
theorem dJ {w : Bool} {r} (hc : c fr Z = some (w, Z1)) (h : (if w then s fr Z1 else t fr Z1) = r) : cX c s t fr Z = r := (aG hc).trans h
theorem zJ {w : Bool} {r} (hc : c fr Z = some (w, Z1)) (h : (if w then a fr Z1 else b fr Z1) = r) : qi c a b fr Z = r := (aG hc).trans h
theorem eE {k : PV -> ag -> M Bool} {w : Bool} (ha : a fr Z = some (x, Z1)) (hk : k x fr Z1 = some (w, Z2)) : eD a k fr Z = some (.bool w, Z2) := (aG ha).trans (aG hk)
theorem fF {k : PV -> ag -> M Bool} {r} (ha : a fr Z = some (x, Z1)) (hk : k x fr Z1 = r) : aY a k fr Z = r := (aG ha).trans hk
theorem dx {f : PV -> PV -> St -> Option Bool} {w : Bool} (hr : b fr Z = some (y, Z1)) (hf : f x y Z1 = some w) : az f b x fr Z = some (w, Z1) := by
 rw [oj, aG hr, hf]; rfl
theorem dM {f : PV -> PV -> St -> Option Bool} {w : Bool} (ha : a fr Z = some (x, Z1)) (hb : b fr Z1 = some (y, Z2)) (hf : f x y Z2 = some w) : aY a (az f b) fr Z = some (w, Z2) := fF ha (dx hb hf)
theorem ky {w : Bool} (ha : a fr Z = some (x, Z1)) (hx : gm x = some w) : bz a fr Z = some (w, Z1) := by
 rw [uy, aG ha, hx]; rfl
theorem kF {np k : Nat} (hl : vs.length = np) (h : s (vs.map some ++ List.replicate k none) Z = some ((.ret v, fr1), Z1)) : bg np k s vs Z = some (v, Z1) := by
 unfold bg; rw [if_pos hl, aG h]
theorem Ak {np k : Nat} (hl : vs.length = np) (h : s (vs.map some ++ List.replicate k none) Z = some ((.next, fr1), Z1)) : bg np k s vs Z = some (.none, Z1) := by
 unfold bg; rw [if_pos hl, aG h]
theorem ip (h : m fr Z = some (vs, Z1)) (hl : vs.length <= 1000) : fS m fr Z = some (.tup vs, Z1) := (aG h).trans (if_pos hl)
theorem ji (h : m fr Z = some (vs, Z1)) (hl : vs.length <= 1000) : cQ m fr Z = some (.ref Z1.next, Z1.push (.list vs)) := (aG h).trans (if_pos hl)
theorem q7 {k : Nat} {r} (ha : a fr Z = some (.tup vs, Z1)) (hl : vs.length <= 1000) (h : gC k s vs fr Z1 = r) : eX k a s fr Z = r := by
 rw [wp, aG ha]
 exact (aG (if_pos hl)).trans h
theorem gD {k : Nat} {r} (h : s (fr.set k (some v)) Z = some ((.next, fr1), Z1)) (h2 : gC k s vs fr1 Z1 = r) : gC k s (v :: vs) fr Z = r := (aG h).trans h2
end
theorem fn {f : PV -> PV -> St -> Option Bool} {r : ag -> M PV} {k : PV -> ag -> M Bool} {fr : ag} {Z Z1 : St} {x y : PV} {p q : Bool} (hr : r fr Z = some (y, Z1)) (hf : f x y Z1 = some p) (hk : k y fr Z1 = some (q, Z1)) : cH f r k x fr Z = some (p && q, Z1) := by
 unfold cH
 rw [aG hr]
 rw [hf]
 cases p
 ·rfl
 ·exact hk
theorem aT (Z : St) (i : Nat) (o : ee) (j : Nat) : (Z.set i o).objs j = if j = i then o else Z.objs j := rfl
theorem cy {Z : St} {i : Nat} {o : ee} : (Z.set i o).objs i = o := if_pos rfl
theorem ef {Z : St} {i j : Nat} {o : ee} (h : j ≠ i) : (Z.set i o).objs j = Z.objs j := if_neg h
section
variable {a b : ag -> M PV} {c d : ag -> M Bool} {m : ag -> M (List PV)} {s t : ag -> M (FR × ag)} {fr fr1 : ag} {Z Z0 Z1 Z2 : St} {x y v : PV} {vs : List PV}
theorem aw {k : Nat} (h : fr[k]? = some (some v)) : ab k fr Z = some (v, Z) := by unfold ab; rw [h]
theorem eH : bq fr Z = some (.none, Z) := rfl
theorem cG : aA fr Z = some ((.next, fr), Z) := rfl
theorem ym : cR fr Z = some (true, Z) := rfl
theorem vj {k l : Int} (ha : a fr Z = some (.int k, Z1)) (hb : b fr Z1 = some (.int l, Z2)) : bA hH a b fr Z = some (.int (k - l), Z2) := jN ha hb rfl
theorem uJ {r} (ha : c fr Z = some (true, Z1)) (hb : d fr Z1 = r) : c9 c d fr Z = r := (aG ha).trans hb
theorem zz (ha : c fr Z = some (false, Z1)) : c9 c d fr Z = some (false, Z1) := aG ha
theorem tO {r} (hc : c fr Z = some (true, Z1)) (h : s fr Z1 = r) : cX c s t fr Z = r := (aG hc).trans h
theorem tq {r} (hc : c fr Z = some (false, Z1)) (h : t fr Z1 = r) : cX c s t fr Z = r := (aG hc).trans h
theorem EP {r} (hc : c fr Z = some (true, Z1)) (h : a fr Z1 = r) : qi c a b fr Z = r := (aG hc).trans h
theorem GG {r} (hc : c fr Z = some (false, Z1)) (h : b fr Z1 = r) : qi c a b fr Z = r := (aG hc).trans h
theorem oP {p : Prop} [Decidable p] (h : p) : some (decide p) = some true := congrArg some (decide_eq_true h)
theorem qg {p : Prop} [Decidable p] (h : ¬ p) : some (decide p) = some false := congrArg some (decide_eq_false h)
end
end
theorem om (Z : St) (i : Nat) (o o' : ee) : (Z.set i o).set i o' = Z.set i o' := by
 unfold St.set
 congr 1
 funext j
 dsimp only
 split <;> rfl
noncomputable def T.addOff (k : Int) : T -> T
 | .E => .E
 | .N l x r => .N l { x with off := x.off + k } r
noncomputable def Nd.down (x : Nd) : Nd := { x with b := x.b + x.off, e := x.e + x.off, lim := x.lim + x.off, off := 0 }
theorem bD (k : Int) (t : T) : (t.addOff k).ids = t.ids := by
 cases t with
 | E => rfl
 | N l x r => show (l.nodes ++ _ :: r.nodes).map _ = (l.nodes ++ x :: r.nodes).map _; rw [List.map_append, List.map_append]; rfl
theorem c8 (k : Int) (t : T) : (t.addOff k).ptr = t.ptr := by cases t <;> rfl
theorem fQ (k c : Int) (t : T) : (t.addOff k).inord c = t.inord (c + k) := by
 cases t with
 | E => rfl
 | N l x r => simp only [T.addOff, T.inord]; rw [show c + (x.off + k) = c + k + x.off by lia]
theorem eo (k : Int) (t : T) : (t.addOff k).shape = t.shape := by cases t <;> rfl
theorem ij {k : Int} {t : T} (h : t.UB) : (t.addOff k).UB := by cases t <;> exact h
theorem hZ (k : Int) (t : T) : (t.addOff k).top = t.top.map (· + k) := by
 cases t with
 | E => rfl
 | N l x r => show some _ = some _; congr 1; show x.lim + (x.off + k) = x.lim + x.off + k; exact (Int.add_assoc ..).symm
theorem Sub.of {Z Z' : St} : ∀ {t : T} {p : PV}, (∀ a ∈ t.ids, Z'.objs a = Z.objs a) -> Sub Z p t -> Sub Z' p t
 | .E, _, _, _ => trivial
 | .N l x r, p, h, ⟨h1, h2, h3⟩ => by
  have hm : x.id ∈ (T.N l x r).ids := by show x.id ∈ (l.nodes ++ x :: r.nodes).map _; simp
  refine ⟨by rw [h _ hm]; exact h1, Sub.of (λ a ha => h a ?_) h2, Sub.of (λ a ha => h a ?_) h3⟩
  ·show a ∈ (l.nodes ++ x :: r.nodes).map _
   rw [List.map_append]; exact List.mem_append_left _ ha
  ·show a ∈ (l.nodes ++ x :: r.nodes).map _
   rw [List.map_append, List.map_cons]; exact List.mem_append_right _ (List.mem_cons_of_mem _ ha)
theorem bJ (l : T) (x : Nd) (r : T) : (T.N l x r).ids = l.ids ++ x.id :: r.ids := by
 show (l.nodes ++ x :: r.nodes).map _ = _
 rw [List.map_append, List.map_cons]; rfl
theorem Sub.addOff {Z Z' : St} {k : Int} {t : T} {p : PV} (hn : t.ids.Nodup) (h : Sub Z p t) (hs : ∀ l x r, t = .N l x r -> Z'.objs x.id = Nd.obj { x with off := x.off + k } l.ptr r.ptr p) (ho : ∀ a ∈ t.ids, t.ptr ≠ .ref a -> Z'.objs a = Z.objs a) : Sub Z' p (t.addOff k) := by
 cases t with
 | E => trivial
 | N l x r =>
  refine bN h λ h1 h2 h3 => ?_
  rw [bJ] at hn ho
  have hd := List.nodup_append.mp hn
  have hd2 := List.nodup_cons.mp hd.2.1
  refine ⟨hs l x r rfl, Sub.of (λ a ha => ho a (List.mem_append_left _ ha) ?_) h2, Sub.of (λ a ha => ho a (List.mem_append_right _ (List.mem_cons_of_mem _ ha)) ?_) h3⟩
  ·intro q; cases q; exact hd.2.2 _ ha _ (List.mem_cons_self ..) rfl
  ·intro q; cases q; exact hd2.1 ha
def EL : ag -> M (FR × ag) := ai (cX (aY (ab 1) (az bR bq)) (ai (am aL (ab 1) (bA dq (ak aL (ab 1)) (ak aL (ab 0)))) aA) aA) aA
structure G5 (Z Z' : St) (off : Int) (q : PV) (t : T) : Prop where
 next : Z'.next = Z.next
 son : ∀ l y r, t = .N l y r -> Z'.objs y.id = Nd.obj { y with off := y.off + off } l.ptr r.ptr q
 old : ∀ a, t.ptr ≠ .ref a -> Z'.objs a = Z.objs a
theorem Ar {Z : St} {i : Nat} {off : Int} {num b e fa ra lim red lp rp p : PV} (hx : Z.objs i = .inst 0 [num, b, e, fa, ra, lim, .int off, red, lp, rp, p]) : ∀ (t : T), (∀ l y r, t = .N l y r -> Z.objs y.id = Nd.obj y l.ptr r.ptr (.ref i)) ->
  ∃ Z', EL [some (.ref i), some t.ptr] Z = some ((.next, [some (.ref i), some t.ptr]), Z') /\ G5 Z Z' off (.ref i) t := by
 intro t h
 cases t with
 | E => exact ⟨Z, av (dJ (dM rfl rfl rfl) rfl) rfl, rfl, (λ _ _ _ e => by cases e), λ _ _ => rfl⟩
 | N l y r => exact ⟨Z.set y.id (Nd.obj { y with off := y.off + off } l.ptr r.ptr (.ref i)), av (dJ (dM rfl rfl rfl) (av (cr (jK (aB rfl (h l y r rfl) rfl rfl) (aB rfl hx rfl rfl)) rfl (h l y r rfl) rfl) rfl)) rfl,
   rfl, λ l' y' r' e => by cases e; exact cy, λ a ha => ef λ q => ha (congrArg PV.ref q.symm)⟩
structure Hv (Z Z' : St) (l : T) (x : Nd) (r : T) (p : PV) : Prop where
 next : Z'.next = Z.next
 me : Z'.objs x.id = x.down.obj l.ptr r.ptr p
 left : ∀ ll y lr, l = .N ll y lr -> Z'.objs y.id = Nd.obj { y with off := y.off + x.off } ll.ptr lr.ptr (.ref x.id)
 right : ∀ rl y rr, r = .N rl y rr -> Z'.objs y.id = Nd.obj { y with off := y.off + x.off } rl.ptr rr.ptr (.ref x.id)
 old : ∀ a, a ≠ x.id -> l.ptr ≠ .ref a -> r.ptr ≠ .ref a -> Z'.objs a = Z.objs a
theorem tg {t : T} {a : Nat} (h : a ∉ t.ids) : t.ptr ≠ .ref a := by
 cases t with
 | E => exact nofun
 | N l y r => intro q; cases q; exact h (by rw [bJ]; exact List.mem_append_right _ (List.mem_cons_self ..))
theorem mF {l : T} {y : Nd} {r : T} {t : T} (e : t = .N l y r) : y.id ∈ t.ids := by rw [e, bJ]; exact List.mem_append_right _ (List.mem_cons_self ..)
theorem Aj {Z : St} {p : PV} {t : T} (h : Sub Z p t) : ∀ l y r, t = .N l y r -> Z.objs y.id = Nd.obj y l.ptr r.ptr p := λ l y r e => by subst e; exact h.1
theorem EX {Z : St} {p : PV} {l r : T} {x : Nd} (h : Sub Z p (.N l x r)) (hn : (T.N l x r).ids.Nodup) : ∃ Z', bg 1 1 dg [.ref x.id] Z = some (.none, Z') /\ Hv Z Z' l x r p := by
 refine bN h λ h1 h2 h3 => ?_
 rw [bJ] at hn
 have hd := List.nodup_append.mp hn
 have hd2 := List.nodup_cons.mp hd.2.1
 have xl : x.id ∉ l.ids := λ q => hd.2.2 _ q _ (List.mem_cons_self ..) rfl
 have lr : ∀ a, a ∈ l.ids -> a ∉ r.ids := λ a q1 q2 => hd.2.2 _ q1 _ (List.mem_cons_of_mem _ q2) rfl
 have ne : ∀ {a : Nat} {t : T}, a ∈ t.ids -> x.id ∉ t.ids -> a ≠ x.id := λ h1 h2 q => h2 (q ▸ h1)
 clear hn hd
 have L := Aj h2
 have R := Aj h3
 clear h2 h3
 generalize hσ1 : ((Z.set x.id (Nd.obj { x with b := x.b + x.off } l.ptr r.ptr p)).set x.id (Nd.obj { x with b := x.b + x.off, e := x.e + x.off } l.ptr r.ptr p)).set x.id (Nd.obj { x with b := x.b + x.off, e := x.e + x.off, lim := x.lim + x.off } l.ptr r.ptr p) = Z1; revert Z1; refine qQ ?_; intro Z1 hσ1
 have o1 : ∀ a, a ≠ x.id -> Z1.objs a = Z.objs a := λ a ha => by rw [<- hσ1]; exact (ef ha).trans ((ef ha).trans (ef ha))
 have x1 : Z1.objs x.id = Nd.obj { x with b := x.b + x.off, e := x.e + x.off, lim := x.lim + x.off } l.ptr r.ptr p := by rw [<- hσ1]; exact cy
 have n1 : Z1.next = Z.next := by rw [<- hσ1]; rfl
 refine aQ (Ar x1 l λ a y b e => (o1 _ (ne (mF e) xl)).trans (L a y b e)) λ Z2 e2 S2 => ?_
 have x2 := (S2.old _ (tg xl)).trans x1
 refine aQ (Ar x2 r λ a y b e => (S2.old _ (tg λ q => lr _ q (mF e))).trans ((o1 _ (ne (mF e) hd2.1)).trans (R a y b e))) λ Z3 e3 S3 => ?_
 have x3 := (S3.old _ (tg hd2.1)).trans x2
 refine ⟨Z3.set x.id (x.down.obj l.ptr r.ptr p), Ak rfl (fr1 := [some (.ref x.id), some r.ptr]) ?_, S3.next.trans (S2.next.trans n1), cy, λ a y b e => (ef (ne (mF e) xl)).trans ((S3.old _ (tg λ q => lr _ (mF e) q)).trans (S2.son a y b e)),
  λ a y b e => (ef (ne (mF e) hd2.1)).trans (S3.son a y b e), λ a q1 q2 q3 => (ef q1).trans ((S3.old a q3).trans ((S2.old a q2).trans (o1 a q1)))⟩
 show dg [some (.ref x.id), none] Z = _
 unfold dg
 refine av (cr (jK (aB rfl h1 rfl rfl) (aB rfl h1 rfl rfl)) rfl h1 rfl) ?_
 refine av (cr (jK (aB rfl cy rfl rfl) (aB rfl cy rfl rfl)) rfl cy rfl) ?_
 refine av (cr (jK (aB rfl cy rfl rfl) (aB rfl cy rfl rfl)) rfl cy rfl) ?_
 refine aD (Z1 := Z3) (fr1 := [some (.ref x.id), some r.ptr]) (q7 (ip (aI (aB rfl cy rfl rfl) (aI (aB rfl cy rfl rfl) bZ)) (Nat.le_of_ble_eq_true rfl)) (Nat.le_of_ble_eq_true rfl) (gD (Z1 := Z2) (fr1 := [some (.ref x.id), some l.ptr]) ?_ (gD (fr1 := [some (.ref x.id), some r.ptr]) e3 rfl))) (av (cr rfl rfl x3 rfl) rfl)
 exact Eq.trans (congrArg (EL _) hσ1) e2
theorem wr {Z : St} {p : PV} {l r : T} {x : Nd} (h : Sub Z p (.N l x r)) (hn : (T.N l x r).ids.Nodup) :
  ∃ Z', bO [.ref x.id] Z = some (.none, Z') /\ Z'.next = Z.next /\ Sub Z' p (.N (l.addOff x.off) x.down (r.addOff x.off)) /\ ∀ a, a ∉ (T.N l x r).ids -> Z'.objs a = Z.objs a := by
 obtain ⟨Z', e, e1, e2, e3, e4, e5⟩ := EX h hn
 refine bN h λ h1 h2 h3 => ?_
 have hn' := hn
 rw [bJ] at hn
 have hd := List.nodup_append.mp hn
 have hd2 := List.nodup_cons.mp hd.2.1
 have ptrMem : ∀ (t : T) (a : Nat), t.ptr = .ref a -> a ∈ t.ids := λ t a h => Classical.byContradiction λ q => tg q h
 refine oB Z' (zD e) e1 ⟨by rw [c8, c8]; exact e2, ?_, ?_⟩ (λ a ha => ?_)
 ·refine Sub.addOff hd.1 h2 e3 λ a ha hp => e5 a (λ q => hd.2.2 a ha _ (List.mem_cons_self ..) q) hp (λ q => hd.2.2 a ha a (List.mem_cons_of_mem _ (ptrMem _ _ q)) rfl)
 ·refine Sub.addOff hd2.2 h3 e4 λ a ha hp => e5 a (λ q => hd2.1 (q ▸ ha)) (λ q => hd.2.2 a (ptrMem _ _ q) a (List.mem_cons_of_mem _ ha) rfl) hp
 ·rw [bJ] at ha
  simp only [List.mem_append, List.mem_cons, not_or] at ha
  exact e5 a ha.2.1 (λ q => ha.1 (ptrMem _ _ q)) (λ q => ha.2.2 (ptrMem _ _ q))
noncomputable def mx (a b : Int) : Int := if b > a then b else a
theorem ze (a b : Int) : a <= mx a b := by unfold mx; split <;> lia
theorem C9 (a b : Int) : b <= mx a b := by unfold mx; split <;> lia
theorem Dn {a a' b : Int} (h : a <= a') : mx a b <= mx a' b := by unfold mx; split <;> split <;> lia
def Nd.into (x : Nd) (k : Int) (e : Int) : Nd := { x with b := x.b + k, e := x.e + k, lim := mx (x.lim + k) e, off := 0 }
noncomputable def gG (nd : Nd) : Int -> T -> T
 | _, .E => .N .E nd .E
 | c, .N l x r => if nd.b <= x.b + (x.off + c) then .N (gG nd (x.off + c) l) (x.into (x.off + c) nd.e) (r.addOff (x.off + c)) else .N (l.addOff (x.off + c)) (x.into (x.off + c) nd.e) (gG nd (x.off + c) r)
noncomputable def eC (b : Int) : Int -> T -> Nat
 | _, .E => 0
 | c, .N l x r => if b <= x.b + (x.off + c) then eC b (x.off + c) l else l.shape.size + 1 + eC b (x.off + c) r
theorem jb (b : Int) : ∀ (c : Int) (t : T), eC b c t <= t.shape.size
 | _, .E => Nat.le_refl _
 | c, .N l x r => by
  have h1 := jb b (x.off + c) l
  have h2 := jb b (x.off + c) r
  unfold eC
  show _ <= l.shape.size + 1 + r.shape.size
  split <;> lia
theorem zN (l r : Sh) (c : Bool) (k : Nat) : lu (.N l c r) k = if k <= l.size then .N (lu l k) c r else .N l c (lu r (k - l.size - 1)) := rfl
theorem nK {nd : Nd} (hr : nd.red = true) : ∀ (c : Int) (t : T), (gG nd c t).shape = lu t.shape (eC nd.b c t)
 | _, .E => by show Sh.N .E nd.red .E = _; rw [hr]; rfl
 | c, .N l x r => by
  have h1 := jb nd.b (x.off + c) l
  unfold gG eC
  split
  ·show Sh.N (gG nd _ l).shape x.red (r.addOff _).shape = lu (.N l.shape x.red r.shape) _
   rw [nK hr, eo, zN, if_pos h1]
  ·show Sh.N (l.addOff _).shape x.red (gG nd _ r).shape = lu (.N l.shape x.red r.shape) _
   rw [nK hr, eo, zN, if_neg (by lia), show l.shape.size + 1 + eC nd.b (x.off + c) r - l.shape.size - 1 = eC nd.b (x.off + c) r by lia]
theorem mn {nd : Nd} : ∀ (c : Int) (t : T), (gG nd c t).ids = t.ids.take (eC nd.b c t) ++ nd.id :: t.ids.drop (eC nd.b c t)
 | _, .E => rfl
 | c, .N l x r => by
  have h1 := jb nd.b (x.off + c) l
  have hl : l.ids.length = l.shape.size := by rw [T.shape_size]; simp [T.ids]
  rw [bJ]
  unfold gG eC
  split
  ·rw [bJ, mn, bD, List.take_append_of_le_length (by lia), List.drop_append_of_le_length (by lia)]
   simp [Nd.into]
  ·rw [bJ, mn, bD, show l.shape.size + 1 + eC nd.b (x.off + c) r = l.ids.length + (eC nd.b (x.off + c) r + 1) by lia, List.take_length_add_append, List.drop_length_add_append, List.take_succ_cons, List.drop_succ_cons]
   simp [Nd.into]
theorem Di {nd : Nd} (c : Int) (t : T) : (gG nd c t).ids[eC nd.b c t]? = some nd.id := by
 have h := jb nd.b c t
 have hl : t.ids.length = t.shape.size := by rw [T.shape_size]; simp [T.ids]
 rw [mn, List.getElem?_append_right (by rw [List.length_take]; lia), List.length_take, Nat.min_eq_left (by lia), Nat.sub_self]
 rfl
theorem zl {nd : Nd} {c : Int} {t : T} (h : t.ids.Nodup) (hn : nd.id ∉ t.ids) : (gG nd c t).ids.Nodup := by
 rw [mn]
 have e : t.ids = t.ids.take (eC nd.b c t) ++ t.ids.drop (eC nd.b c t) := (List.take_append_drop _ _).symm
 have hp : (t.ids.take (eC nd.b c t) ++ nd.id :: t.ids.drop (eC nd.b c t)).Perm (nd.id :: t.ids) := by
  refine List.perm_middle.trans ?_
  rw [<- e]
 exact hp.nodup_iff.mpr (List.nodup_cons.mpr ⟨hn, h⟩)
theorem CG {nd : Nd} {c : Int} {t : T} {a : Nat} : a ∈ (gG nd c t).ids ↔ a = nd.id \/ a ∈ t.ids := by
 rw [mn]
 have e : t.ids = t.ids.take (eC nd.b c t) ++ t.ids.drop (eC nd.b c t) := (List.take_append_drop _ _).symm
 conv => rhs; rw [e]
 simp only [List.mem_append, List.mem_cons]
 constructor
 ·rintro (h | h | h)
  ·exact .inr (.inl h)
  ·exact .inl h
  ·exact .inr (.inr h)
 ·rintro (h | h | h)
  ·exact .inr (.inl h)
  ·exact .inl h
  ·exact .inr (.inr h)
theorem CM {nd : Nd} (ho : nd.off = 0) (hl : nd.lim = nd.e) : ∀ (c : Int) (t : T) (m : Int), (gG nd c t).top = some m -> m = match t.top with | none => nd.e | some k => mx (k + c) nd.e
 | _, .E, m, h => by cases ej h; show nd.lim + nd.off = nd.e; lia
 | c, .N l x r, m, h => by
  unfold gG at h
  show m = mx (x.lim + x.off + c) nd.e
  have e : x.lim + x.off + c = x.lim + (x.off + c) := by exact Int.add_assoc ..
  rw [e]
  split at h
  ·cases ej h; show mx _ _ + 0 = _; exact Int.add_zero ..
  ·cases ej h; show mx _ _ + 0 = _; exact Int.add_zero ..
theorem uZ {nd : Nd} (ho : nd.off = 0) (hl : nd.lim = nd.e) : ∀ (c : Int) {t : T}, t.UB -> (gG nd c t).UB
 | _, .E, _ => ⟨by lia, (λ _ h => by exact bG h), (λ _ h => by exact bG h), trivial, trivial⟩
 | c, .N l x r, h => by
  refine iW h λ u1 u2 u3 u4 u5 => ?_
  have sub : ∀ t : T, (∀ m, t.top = some m -> m <= x.lim) -> ∀ m, (gG nd (x.off + c) t).top = some m -> m <= mx (x.lim + (x.off + c)) nd.e := by
   intro t ht m hm
   have := CM ho hl _ _ _ hm
   rw [this]
   cases q : t.top with
   | none => exact C9 _ _
   | some k => exact Dn (by have := ht k q; exact Int.add_le_add_right (by assumption) _)
  have oth : ∀ t : T, (∀ m, t.top = some m -> m <= x.lim) -> ∀ m, (t.addOff (x.off + c)).top = some m -> m <= mx (x.lim + (x.off + c)) nd.e := by
   intro t ht m hm
   rw [hZ] at hm
   refine aQ (Option.map_eq_some_iff.mp hm) λ k hk qq1 => ?_; obtain rfl := qq1
   have := ht k hk
   have := ze (x.lim + (x.off + c)) nd.e
   lia
  have ue : x.e + (x.off + c) <= mx (x.lim + (x.off + c)) nd.e := by have := ze (x.lim + (x.off + c)) nd.e; lia
  unfold gG
  split
  ·exact ⟨ue, sub l u2, oth r u3, uZ ho hl _ u4, ij u5⟩
  ·exact ⟨ue, oth l u2, sub r u3, ij u4, uZ ho hl _ u5⟩
noncomputable def fB (it : It) : List It -> List It
 | [] => [it]
 | x :: l => if it.b <= x.b then it :: x :: l else x :: fB it l
theorem sj {it x : It} : ∀ {l1 l2 : List It}, it.b <= x.b -> fB it (l1 ++ x :: l2) = fB it l1 ++ x :: l2
 | [], l2, h => by show fB it (x :: l2) = [it] ++ _; unfold fB; rw [if_pos h]; rfl
 | y :: l1, l2, h => by
  show fB it (y :: (l1 ++ x :: l2)) = fB it (y :: l1) ++ _
  unfold fB
  split
  ·rfl
  ·rw [sj h]; rfl
theorem qp {it x : It} : ∀ {l1 l2 : List It}, (∀ y ∈ l1, y.b <= x.b) -> ¬ it.b <= x.b -> fB it (l1 ++ x :: l2) = l1 ++ x :: fB it l2
 | [], l2, _, h => by show fB it (x :: l2) = _; conv => lhs; unfold fB
                      rw [if_neg h]; rfl
 | y :: l1, l2, h1, h => by
  show fB it (y :: (l1 ++ x :: l2)) = y :: (l1 ++ x :: fB it l2)
  conv => lhs; unfold fB
  have := h1 y (List.mem_cons_self ..)
  rw [if_neg (by lia), qp (λ z hz => h1 z (List.mem_cons_of_mem _ hz)) h]
def jA (l : List It) : Prop := l.Pairwise (λ a b => a.b <= b.b)
theorem nL {nd : Nd} (ho : nd.off = 0) : ∀ (c : Int) (t : T), jA (t.inord c) -> (gG nd c t).inord 0 = fB ⟨nd.id, nd.num, nd.b, nd.e⟩ (t.inord c)
 | c, .E, _ => by
  show [] ++ _ :: [] = [_]
  rw [ho]
  show [It.mk _ _ (nd.b + (0 + 0)) (nd.e + (0 + 0))] = _
  rw [show (0 : Int) + 0 = 0 by rfl, Int.add_zero, Int.add_zero]
 | c, .N l x r, hs => by
  have hs' : jA (l.inord (c + x.off) ++ ⟨x.id, x.num, x.b + (c + x.off), x.e + (c + x.off)⟩ :: r.inord (c + x.off)) := hs
  have hp := List.pairwise_append.mp hs'
  have hp2 := List.pairwise_cons.mp hp.2.1
  have e : c + x.off = x.off + c := by lia
  show _ = fB _ (l.inord (c + x.off) ++ ⟨x.id, x.num, x.b + (c + x.off), x.e + (c + x.off)⟩ :: r.inord (c + x.off))
  rw [e] at hp hp2 |-
  have z : ∀ k : Int, k + (0 + 0) = k := λ k => by lia
  unfold gG
  split
  ·rename_i hle
   rw [sj hle, <- nL ho _ l hp.1]
   show (gG nd _ l).inord (0 + 0) ++ ⟨x.id, x.num, x.b + (x.off + c) + (0 + 0), x.e + (x.off + c) + (0 + 0)⟩ :: (r.addOff _).inord (0 + 0) = _
   rw [fQ, z, z]
   simp
  ·rename_i hle
   rw [qp (λ y hy => hp.2.2 y hy _ (List.mem_cons_self ..)) hle, <- nL ho _ r hp2.2]
   show (l.addOff _).inord (0 + 0) ++ ⟨x.id, x.num, x.b + (x.off + c) + (0 + 0), x.e + (x.off + c) + (0 + 0)⟩ :: (gG nd _ r).inord (0 + 0) = _
   rw [fQ, z, z]
   simp
def rQ : ag -> M Bool := aY (ab 2) (az bR bq)
def C6 : ag -> M (FR × ag) :=
  (ai (am a9 (ab 2) (ap lC (ac (ak a9 (ab 2)) (ac (ak bx (ab 1)) aj))))
  (ai (aF 3 (ab 2))
  (ai (aF 4 (eD (ak aX (ab 1)) (az oZ (ak aX (ab 2)))))
  (ai (aF 2 (qi (bz (ab 4)) (ak aM (ab 2)) (ak aH (ab 2))))
  aA))))
def vl : ag -> M (FR × ag) := ai (bi (ap bO (ac (ab 2) aj))) C6
theorem DV {Z : St} {tr : Nat} {p pv : PV} {il0 : Option PV} {l r : T} {x : Nd} {nid : Nat} {num fa ra : PV} {b e lim off : Int} {red : Bool} {q1 q2 q3 : PV} (h : Sub Z p (.N l x r)) (hn : (T.N l x r).ids.Nodup) (hni : nid ∉ (T.N l x r).ids)
  (hnode : Z.objs nid = .inst 0 [num, .int b, .int e, fa, ra, .int lim, .int off, .bool red, q1, q2, q3]) :
  ∃ Z', vl [some (.ref tr), some (.ref nid), some (.ref x.id), some pv, il0] Z = some ((.next, [some (.ref tr), some (.ref nid), some (if b <= x.b + x.off then l.ptr else r.ptr), some (.ref x.id), some (.bool (decide (b <= x.b + x.off)))]), Z') /\
   (Z'.next = Z.next /\ Z'.objs x.id = (x.into x.off e).obj l.ptr r.ptr p /\ Sub Z' (.ref x.id) (l.addOff x.off) /\ Sub Z' (.ref x.id) (r.addOff x.off) /\ ∀ a, a ∉ (T.N l x r).ids -> Z'.objs a = Z.objs a) := by
 refine ke (wr h hn) λ Z1 e1 e2 qq1 e6 => ?_; obtain ⟨e3, e4, e5⟩ := qq1
 have hx : Z1.objs x.id = .inst 0 [x.num, .int (x.b + x.off), .int (x.e + x.off), x.fa, x.ra, .int (x.lim + x.off), .int 0, .bool x.red, l.ptr, r.ptr, p] := by rw [c8, c8] at e3; exact e3
 have hnd : Z1.objs nid = .inst 0 [num, .int b, .int e, fa, ra, .int lim, .int off, .bool red, q1, q2, q3] := by rw [e6 nid hni]; exact hnode
 have n1 : nid ≠ x.id := λ q => hni (by rw [bJ, q]; exact List.mem_append_right _ (List.mem_cons_self ..))
 have n2 := Ne.symm n1
 have hn' := hn
 rw [bJ] at hn'
 have hd := List.nodup_append.mp hn'
 have hd2 := List.nodup_cons.mp hd.2.1
 have k1 : C6 [some (.ref tr), some (.ref nid), some (.ref x.id), some pv, il0] Z1 = some ((.next, [some (.ref tr), some (.ref nid), some (if b <= x.b + x.off then l.ptr else r.ptr), some (.ref x.id), some (.bool (decide (b <= x.b + x.off)))]), Z1.set x.id ((x.into x.off e).obj l.ptr r.ptr p)) := by
  have hS : (Z1.set x.id ((x.into x.off e).obj l.ptr r.ptr p)).objs nid = .inst 0 [num, .int b, .int e, fa, ra, .int lim, .int off, .bool red, q1, q2, q3] := (ef n1).trans hnd
  refine av (cr (bo (vs := [.int (x.lim + x.off), .int e]) (aI (aB rfl hx rfl rfl) (aI (aB rfl hnd rfl rfl) bZ)) rfl) rfl hx rfl) (aD rfl (aD (fA (eE (aB rfl hS rfl rfl) (dx (w := decide (b <= x.b + x.off)) (aB rfl cy rfl rfl) rfl))) ?_))
  by_cases hc : b <= x.b + x.off
  ·rw [if_pos hc, decide_eq_true hc]
   exact aD (fA (zJ (ky rfl rfl) (aB rfl cy rfl rfl))) rfl
  ·rw [if_neg hc, decide_eq_false hc]
   exact aD (fA (zJ (ky rfl rfl) (aB rfl cy rfl rfl))) rfl
 refine Db _ (aD (cv (p := .none) (vs := [.ref x.id]) (Z0 := Z) rfl e1) k1) e2 (if_pos rfl) (Sub.of (λ a ha => ?_) e4) (Sub.of (λ a ha => ?_) e5) (λ a ha => ?_)
 ·rw [bD] at ha
  exact if_neg (λ q => hd.2.2 a ha _ (List.mem_cons_self ..) q)
 ·rw [bD] at ha
  exact if_neg (λ q : a = x.id => hd2.1 (by rw [<- q]; exact ha))
 ·refine (if_neg (λ q => ha ?_)).trans (e6 a ha)
  rw [bJ, q]; exact List.mem_append_right _ (List.mem_cons_self ..)
def HU (tr nid : Nat) (nd : Nd) (t : T) (c : Int) (p pv : PV) (il0 : Option PV) (Z : St) : Prop := ∃ (Y : Nd) (lp rp pp : PV) (il : Bool) (Z1 : St), c0 rQ vl [some (.ref tr), some (.ref nid), some t.ptr, some pv, il0] Z = some ((.next, [some (.ref tr), some (.ref nid), some .none, some (.ref Y.id), some (.bool il)]), Z1) /\ Z1.next = Z.next /\ (∀ a, a ∉ t.ids -> Z1.objs a = Z.objs a) /\
   Y.id ∈ t.ids /\ Z1.objs Y.id = Y.obj lp rp pp /\
   ∀ Z2 : St, (∀ a, a ≠ Y.id -> a ≠ nid -> Z2.objs a = Z1.objs a) -> Z2.objs Y.id = (if il then Y.obj (.ref nid) rp pp else Y.obj lp (.ref nid) pp) -> Z2.objs nid = nd.obj .none .none (.ref Y.id) -> Sub Z2 p (gG nd c t) /\ (gG nd c t).ptr = t.ptr
theorem Dj {tr nid : Nat} {nd : Nd} (hid : nd.id = nid) (hoff : nd.off = 0) (hlim : nd.lim = nd.e) {lim off : Int} {red : Bool} {q1 q2 q3 : PV} : ∀ (t : T) (c : Int) (p pv : PV) (il0 : Option PV) (Z : St), t ≠ .E -> Sub Z p (t.addOff c) -> t.ids.Nodup -> nid ∉ t.ids ->
  Z.objs nid = .inst 0 [nd.num, .int nd.b, .int nd.e, nd.fa, nd.ra, .int lim, .int off, .bool red, q1, q2, q3] ->
  HU tr nid nd t c p pv il0 Z := by
 intro t
 induction t with
 | E => intro c p pv il0 Z h; exact absurd rfl h
 | N l x r ihl ihr =>
  intro c p pv il0 Z _ hs hn hni hnode
  have hs' : Sub Z p (.N l { x with off := x.off + c } r) := hs
  have hnn : (T.N l { x with off := x.off + c } r).ids = (T.N l x r).ids := by rw [bJ, bJ]
  refine uL (DV (tr := tr) (pv := pv) (il0 := il0) hs' (hnn ▸ hn) (hnn ▸ hni) hnode) λ Z1 e1 e2 e3 e4 e5 e6 => ?_
  rw [hnn] at e6
  have hn' := hn
  rw [bJ] at hn'
  have hd := List.nodup_append.mp hn'
  have hd2 := List.nodup_cons.mp hd.2.1
  have hni' := hni
  rw [bJ] at hni'
  simp only [List.mem_append, List.mem_cons, not_or] at hni'
  have hcond : ∀ (v : Nat) (pv : PV) (il : Option PV) (s : St), rQ [some (.ref tr), some (.ref nid), some (.ref v), some pv, il] s = some (true, s) := λ v pv il s => rfl
  have hcondE : ∀ (pv : PV) (il : Option PV) (s : St), rQ [some (.ref tr), some (.ref nid), some .none, some pv, il] s = some (false, s) := λ pv il s => rfl
  have hnode1 : Z1.objs nid = .inst 0 [nd.num, .int nd.b, .int nd.e, nd.fa, nd.ra, .int lim, .int off, .bool red, q1, q2, q3] := by rw [e6 nid hni]; exact hnode
  have hmx : x.id ∈ (T.N l x r).ids := by rw [bJ]; exact List.mem_append_right _ (List.mem_cons_self ..)
  have e3' : Z1.objs x.id = (x.into (x.off + c) nd.e).obj l.ptr r.ptr p := e3
  by_cases hc : nd.b <= x.b + (x.off + c)
  ·have e1' := e1
   simp only [hc, ↓reduceIte, decide_true] at e1'
   have hins : gG nd c (.N l x r) = .N (gG nd (x.off + c) l) (x.into (x.off + c) nd.e) (r.addOff (x.off + c)) := if_pos hc
   by_cases hl : l = .E
   ·have hlp : l.ptr = .none := by rw [hl]; rfl
    rw [hlp] at e1'
    refine Aq (x.into (x.off + c) nd.e) .none r.ptr p true Z1 (eR (hcond _ _ _ _) e1' (jd (hcondE _ _ _))) e2 e6 hmx (e3'.trans (by rw [hlp])) (λ Z2 h1 h2 h3 => ?_)
    rw [hins, hl]
    refine ⟨⟨by rw [c8]; show _ = Nd.obj _ (.ref nd.id) r.ptr p; rw [hid]; exact h2, ⟨?_, trivial, trivial⟩, ?_⟩, rfl⟩
    ·rw [hid]; exact h3
    ·exact Sub.of (λ a ha => by rw [bD] at ha; exact h1 a (λ q => hd2.1 (by have q : a = x.id := q; rw [<- q]; exact ha)) (λ q => hni'.2.2 (q ▸ ha))) e5
   ·refine Bz (ihl (x.off + c) (.ref x.id) (.ref x.id) (some (.bool true)) Z1 hl e4 hd.1 hni'.1 hnode1) λ Y lp rp pp il Z3 f1 f2 f3 f4 f5 f6 => ?_
    refine Aq Y lp rp pp il Z3 (eR (hcond _ _ _ _) e1' f1) (f2.trans e2) (λ a ha => ?_) ?_ f5 (λ Z2 h1 h2 h3 => ?_)
    ·rw [bJ] at ha
     simp only [List.mem_append, List.mem_cons, not_or] at ha
     rw [f3 a ha.1]
     exact e6 a (by rw [bJ]; simp only [List.mem_append, List.mem_cons, not_or]; exact ha)
    ·rw [bJ]; exact List.mem_append_left _ f4
    ·refine bK (f6 Z2 h1 h2 h3) λ g1 g2 => ?_
     have hxl : x.id ∉ l.ids := λ q => hd.2.2 _ q _ (List.mem_cons_self ..) rfl
     rw [hins]
     refine ⟨⟨?_, g1, ?_⟩, rfl⟩
     ·rw [c8, g2]
      show Z2.objs x.id = _
      rw [h1 x.id (λ q => hxl (q ▸ f4)) (λ q => hni (q ▸ hmx)), f3 _ hxl]; exact e3'
     ·refine Sub.of (λ a ha => ?_) e5
      rw [bD] at ha
      have hal : a ∉ l.ids := λ q => hd.2.2 _ q _ (List.mem_cons_of_mem _ ha) rfl
      rw [h1 a (λ q => hal (q ▸ f4)) (λ q => hni'.2.2 (q ▸ ha)), f3 _ hal]
  ·have e1' := e1
   simp only [hc, ↓reduceIte, decide_false] at e1'
   have hins : gG nd c (.N l x r) = .N (l.addOff (x.off + c)) (x.into (x.off + c) nd.e) (gG nd (x.off + c) r) := if_neg hc
   by_cases hl : r = .E
   ·have hlp : r.ptr = .none := by rw [hl]; rfl
    rw [hlp] at e1'
    refine Aq (x.into (x.off + c) nd.e) l.ptr .none p false Z1 (eR (hcond _ _ _ _) e1' (jd (hcondE _ _ _))) e2 e6 hmx (e3'.trans (by rw [hlp])) (λ Z2 h1 h2 h3 => ?_)
    rw [hins, hl]
    refine ⟨⟨by rw [c8]; show _ = Nd.obj _ l.ptr (.ref nd.id) p; rw [hid]; exact h2, ?_, ⟨?_, trivial, trivial⟩⟩, rfl⟩
    ·exact Sub.of (λ a ha => by rw [bD] at ha; exact h1 a (λ q => hd.2.2 a ha _ (List.mem_cons_self ..) q) (λ q => hni'.1 (q ▸ ha))) e4
    ·rw [hid]; exact h3
   ·refine Bz (ihr (x.off + c) (.ref x.id) (.ref x.id) (some (.bool false)) Z1 hl e5 hd2.2 hni'.2.2 hnode1) λ Y lp rp pp il Z3 f1 f2 f3 f4 f5 f6 => ?_
    refine Aq Y lp rp pp il Z3 (eR (hcond _ _ _ _) e1' f1) (f2.trans e2) (λ a ha => ?_) ?_ f5 (λ Z2 h1 h2 h3 => ?_)
    ·rw [bJ] at ha
     simp only [List.mem_append, List.mem_cons, not_or] at ha
     rw [f3 a ha.2.2]
     exact e6 a (by rw [bJ]; simp only [List.mem_append, List.mem_cons, not_or]; exact ha)
    ·rw [bJ]; exact List.mem_append_right _ (List.mem_cons_of_mem _ f4)
    ·refine bK (f6 Z2 h1 h2 h3) λ g1 g2 => ?_
     have hxl : x.id ∉ r.ids := hd2.1
     rw [hins]
     refine ⟨⟨?_, ?_, g1⟩, rfl⟩
     ·rw [c8, g2]
      show Z2.objs x.id = _
      rw [h1 x.id (λ q => hxl (q ▸ f4)) (λ q => hni (q ▸ hmx)), f3 _ hxl]; exact e3'
     ·refine Sub.of (λ a ha => ?_) e4
      rw [bD] at ha
      have hal : a ∉ r.ids := λ q => hd.2.2 _ ha _ (List.mem_cons_of_mem _ q) rfl
      rw [h1 a (λ q => hal (q ▸ f4)) (λ q => hni'.1 (q ▸ ha)), f3 _ hal]
def vV : ag -> M (FR × ag) :=
  (ai (am aR (ab 1) (ab 3))
  (ai (cX (bz (ab 4)) (ai (am aM (ab 3) (ab 1))
  aA) (ai (am aH (ab 3) (ab 1))
  aA))
  (ai (am aJ (ab 1) (de true))
  (ai (bi (ap dj (ac (ab 0) (ac (ab 1) aj))))
  aA))))
def xT : ag -> M (FR × ag) :=
  (ai (aF 2 (ak bL (ab 0)))
  (ai (aF 3 bq)
  (ai (aF 4 (de false))
  (ai (c0 rQ vl) vV))))
def CQ (rest : ag -> M (FR × ag)) : ag -> M (FR × ag) :=
  (ai (am dT (ab 0) (bA dq (ak dT (ab 0)) (aS 1)))
  (ai (am aM (ab 1) bq)
  (ai (am aH (ab 1) bq)
  (ai (am aR (ab 1) bq)
  (ai (am aL (ab 1) (aS 0))
  (ai (am a9 (ab 1) (ak bx (ab 1))) rest))))))
theorem B7 : kK = CQ (ai (cX (aY (ak bL (ab 0)) (az uQ bq)) (ai (am aJ (ab 1) (de false))
  (ai (am bL (ab 0) (ab 1))
  (ai jl
  aA))) aA) xT) := rfl
theorem Bj {Z : St} {tr nid : Nat} {t : T} {num fa ra : PV} {b e lim off : Int} {red : Bool} {q1 q2 q3 : PV} (h : jX Z tr t) (hub : t.UB) (hs : t.shape ∈ LS) (h5 : t.shape.size <= 5) (hni : nid ∉ tr :: t.ids) (hlt : nid < Z.next)
  (hnode : Z.objs nid = .inst 0 [num, .int b, .int e, fa, ra, .int lim, .int off, .bool red, q1, q2, q3]) (hso : jA (t.inord 0)) :
  ∃ p Z' t', go [.ref tr, .ref nid] Z = some (p, Z') /\ jX Z' tr t' /\ t'.shape ∈ LS /\ t'.inord 0 = fB ⟨nid, num, b, e⟩ (t.inord 0) /\ t'.UB /\ xU Z (nid :: tr :: t.ids) Z' := by
 refine br h.root λ cnt hc => ?_
 have n1 : nid ≠ tr := λ q => hni (q ▸ List.mem_cons_self ..)
 have n2 := Ne.symm n1
 have hnt : nid ∉ t.ids := λ q => hni (List.mem_cons_of_mem _ q)
 have htt : tr ∉ t.ids := (List.nodup_cons.mp h.nodup).1
 have hhead : ∀ rest : ag -> M (FR × ag), CQ rest [some (.ref tr), some (.ref nid), none, none, none] Z = rest [some (.ref tr), some (.ref nid), none, none, none] ((Z.set tr (.inst 1 [t.ptr, .int (cnt + 1)])).set nid (.inst 0 [num, .int b, .int e, fa, ra, .int e, .int 0, .bool red, .none, .none, .none])) := by
  intro rest
  have ht : ∀ {o : ee}, (Z.set tr o).objs nid = .inst 0 [num, .int b, .int e, fa, ra, .int lim, .int off, .bool red, q1, q2, q3] := (ef n1).trans hnode
  refine av (cr (jK (aB rfl hc rfl rfl) rfl) rfl hc rfl) (av (cr rfl rfl ht rfl) (av (cr rfl rfl cy rfl) (av (cr rfl rfl cy rfl) (av (cr rfl rfl cy rfl) (av (cr (aB rfl cy rfl rfl) rfl cy rfl) ?_)))))
  rw [om, om, om, om]; rfl
 generalize hσ1 : (Z.set tr (.inst 1 [t.ptr, .int (cnt + 1)])).set nid (.inst 0 [num, .int b, .int e, fa, ra, .int e, .int 0, .bool red, .none, .none, .none]) = Z1 at hhead; revert Z1; refine qQ ?_; intro Z1 hσ1 hhead
 have g1 : Z1.objs nid = .inst 0 [num, .int b, .int e, fa, ra, .int e, .int 0, .bool red, .none, .none, .none] := by rw [<- hσ1]; exact if_pos rfl
 have g2 : Z1.objs tr = .inst 1 [t.ptr, .int (cnt + 1)] := by rw [<- hσ1, aT, if_neg n2, aT, if_pos rfl]
 have g3 : ∀ a, a ≠ nid -> a ≠ tr -> Z1.objs a = Z.objs a := λ a h1 h2 => by rw [<- hσ1, aT, if_neg h1, aT, if_neg h2]
 have g4 : Z1.next = Z.next := by rw [<- hσ1]; rfl
 have hsub1 : Sub Z1 .none t := Sub.of (λ a ha => g3 a (λ q => hnt (q ▸ ha)) (λ q => htt (q ▸ ha))) h.sub
 have hrun : ∀ (p : PV) (Z' : St) (f : FR) (fr' : ag), (ai (cX (aY (ak bL (ab 0)) (az uQ bq)) (ai (am aJ (ab 1) (de false)) (ai (am bL (ab 0) (ab 1)) (ai jl aA))) aA) xT) [some (.ref tr), some (.ref nid), none, none, none] Z1 = some ((f, fr'), Z') -> (match f with | .ret v => v | .next => .none) = p -> go [.ref tr, .ref nid] Z = some (p, Z') := by
  intro p Z' f fr' h1 h2
  unfold go bg
  rw [if_pos (show [PV.ref tr, PV.ref nid].length = 2 from rfl)]
  show cb (kK [some (.ref tr), some (.ref nid), none, none, none] Z) _ = _
  rw [B7, hhead, h1]
  cases f with
  | next => subst h2; rfl
  | ret v => subst h2; rfl
 cases t with
 | E =>
  refine br (⟨_, rfl⟩ : ∃ Z', Z' = (Z1.set nid (.inst 0 [num, .int b, .int e, fa, ra, .int e, .int 0, .bool false, .none, .none, .none])).set tr (.inst 1 [.ref nid, .int (cnt + 1)])) λ Z' k2 => ?_
  have k1 : (ai (cX (aY (ak bL (ab 0)) (az uQ bq)) (ai (am aJ (ab 1) (de false)) (ai (am bL (ab 0) (ab 1)) (ai jl aA))) aA) xT) [some (.ref tr), some (.ref nid), none, none, none] Z1 = some ((.ret .none, [some (.ref tr), some (.ref nid), none, none, none]), Z') := by
   rw [k2]
   exact bv (dJ (dM (aB rfl g2 rfl rfl) rfl rfl) (av (cr rfl rfl g1 rfl) (av (cr rfl rfl ((ef n2).trans g2) rfl) rfl)))
  refine ⟨.none, Z', .N .E ⟨nid, num, b, e, fa, ra, e, 0, false⟩ .E, hrun _ _ _ _ k1 rfl, ⟨⟨cnt + 1, ?_⟩, ⟨?_, trivial, trivial⟩, ?_, ?_⟩, ?_, ?_, ?_, ?_, λ a h1 h2 => ?_⟩
  ·rw [k2, aT, if_pos rfl]; rfl
  ·show Z'.objs nid = _
   rw [k2, aT, if_neg n1, aT, if_pos rfl]; rfl
  ·show (tr :: [nid]).Nodup
   simp [n2]
  ·intro a ha
   rw [k2]
   show a < Z1.next
   rw [g4]
   have ha' : a ∈ tr :: [nid] := ha
   simp only [List.mem_cons, List.not_mem_nil, or_false] at ha'
   rcases ha' with rfl | rfl
   ·exact h.lt _ (List.mem_cons_self ..)
   ·exact hlt
  ·show Sh.N .E false .E ∈ LS
   decide +kernel
  ·show [It.mk _ _ (b + (0 + 0)) (e + (0 + 0))] = [_]
   rw [show (0 : Int) + 0 = 0 by rfl, Int.add_zero, Int.add_zero]
  ·exact ⟨Int.le_refl _, (λ _ h => by exact bG h), (λ _ h => by exact bG h), trivial, trivial⟩
  ·rw [k2]; exact Nat.le_of_eq g4.symm
  ·simp only [List.mem_cons, not_or] at h2
   rw [k2, aT, if_neg h2.2.1, aT, if_neg h2.1, g3 a h2.1 h2.2.1]
 | N l x r =>
  have hne : T.N l x r ≠ .E := by intro q; cases q
  have hmid : xT [some (.ref tr), some (.ref nid), none, none, none] Z1 = ai (c0 rQ vl) vV [some (.ref tr), some (.ref nid), some (T.N l x r).ptr, some .none, some (.bool false)] Z1 := by
   unfold xT
   refine aD (Z1 := Z1) (fr1 := [some (.ref tr), some (.ref nid), some (T.N l x r).ptr, none, none]) ?_ (aD (Z1 := Z1) rfl (aD (Z1 := Z1) rfl rfl))
   exact fA (aB rfl g2 rfl rfl)
  have hif : (cX (aY (ak bL (ab 0)) (az uQ bq)) (ai (am aJ (ab 1) (de false)) (ai (am bL (ab 0) (ab 1)) (ai jl aA))) aA) [some (.ref tr), some (.ref nid), none, none, none] Z1 = some ((.next, [some (.ref tr), some (.ref nid), none, none, none]), Z1) :=
   dJ (dM (aB rfl g2 rfl rfl) rfl rfl) rfl
  have hz : Sub Z1 .none ((T.N l x r).addOff 0) := by
   show Sub Z1 .none (.N l { x with off := x.off + 0 } r)
   rw [Int.add_zero]; exact hsub1
  refine Bz (Dj (tr := tr) (nid := nid) (nd := ⟨nid, num, b, e, fa, ra, e, 0, true⟩) rfl rfl rfl (T.N l x r) 0 .none .none (some (.bool false)) Z1 hne hz (List.nodup_cons.mp h.nodup).2 hnt g1) λ Y lp rp pp il Z2 f1 f2 f3 f4 f5 f6 => ?_
  have hYt : Y.id ≠ tr := λ q => htt (q ▸ f4)
  have hYn : Y.id ≠ nid := λ q => hnt (q ▸ f4)
  have hnY := Ne.symm hYn
  have y5 : Z2.objs Y.id = .inst 0 [Y.num, .int Y.b, .int Y.e, Y.fa, Y.ra, .int Y.lim, .int Y.off, .bool Y.red, lp, rp, pp] := f5
  have n5 : Z2.objs nid = .inst 0 [num, .int b, .int e, fa, ra, .int e, .int 0, .bool red, .none, .none, .none] := by rw [f3 nid hnt]; exact g1
  have hlink : ∃ Z3, vV [some (.ref tr), some (.ref nid), some .none, some (.ref Y.id), some (.bool il)] Z2 = ai (bi (ap dj (ac (ab 0) (ac (ab 1) aj)))) aA [some (.ref tr), some (.ref nid), some .none, some (.ref Y.id), some (.bool il)] Z3 /\
    Z3.next = Z2.next /\ (∀ a, a ≠ Y.id -> a ≠ nid -> Z3.objs a = Z2.objs a) /\ Z3.objs Y.id = (if il then Y.obj (.ref nid) rp pp else Y.obj lp (.ref nid) pp) /\ Z3.objs nid = Nd.obj ⟨nid, num, b, e, fa, ra, e, 0, true⟩ .none .none (.ref Y.id) := by
   unfold vV
   cases il with
   | true =>
    refine ri (((Z2.set nid (.inst 0 [num, .int b, .int e, fa, ra, .int e, .int 0, .bool red, .none, .none, .ref Y.id])).set Y.id (Y.obj (.ref nid) rp pp)).set nid (Nd.obj ⟨nid, num, b, e, fa, ra, e, 0, true⟩ .none .none (.ref Y.id))) ?_ rfl (λ a h1 h2 => ?_) ?_ (if_pos rfl)
    ·refine av (Z1 := Z2.set nid (.inst 0 [num, .int b, .int e, fa, ra, .int e, .int 0, .bool red, .none, .none, .ref Y.id])) ?_ (av (Z1 := (Z2.set nid (.inst 0 [num, .int b, .int e, fa, ra, .int e, .int 0, .bool red, .none, .none, .ref Y.id])).set Y.id (Y.obj (.ref nid) rp pp)) ?_ (av (Z1 := ((Z2.set nid (.inst 0 [num, .int b, .int e, fa, ra, .int e, .int 0, .bool red, .none, .none, .ref Y.id])).set Y.id (Y.obj (.ref nid) rp pp)).set nid (Nd.obj ⟨nid, num, b, e, fa, ra, e, 0, true⟩ .none .none (.ref Y.id))) ?_ rfl))
     ·exact cr rfl rfl n5 rfl
     ·exact dJ (ky rfl rfl) (av (cr rfl rfl ((ef hYn).trans y5) rfl) rfl)
     ·exact cr rfl rfl ((ef hnY).trans cy) rfl
    ·rw [aT, if_neg h2, aT, if_neg h1, aT, if_neg h2]
    ·rw [aT, if_neg hYn, aT, if_pos rfl]; rfl
   | false =>
    refine ri (((Z2.set nid (.inst 0 [num, .int b, .int e, fa, ra, .int e, .int 0, .bool red, .none, .none, .ref Y.id])).set Y.id (Y.obj lp (.ref nid) pp)).set nid (Nd.obj ⟨nid, num, b, e, fa, ra, e, 0, true⟩ .none .none (.ref Y.id))) ?_ rfl (λ a h1 h2 => ?_) ?_ (if_pos rfl)
    ·refine av (Z1 := Z2.set nid (.inst 0 [num, .int b, .int e, fa, ra, .int e, .int 0, .bool red, .none, .none, .ref Y.id])) ?_ (av (Z1 := (Z2.set nid (.inst 0 [num, .int b, .int e, fa, ra, .int e, .int 0, .bool red, .none, .none, .ref Y.id])).set Y.id (Y.obj lp (.ref nid) pp)) ?_ (av (Z1 := ((Z2.set nid (.inst 0 [num, .int b, .int e, fa, ra, .int e, .int 0, .bool red, .none, .none, .ref Y.id])).set Y.id (Y.obj lp (.ref nid) pp)).set nid (Nd.obj ⟨nid, num, b, e, fa, ra, e, 0, true⟩ .none .none (.ref Y.id))) ?_ rfl))
     ·exact cr rfl rfl n5 rfl
     ·exact dJ (ky rfl rfl) (av (cr rfl rfl ((ef hYn).trans y5) rfl) rfl)
     ·exact cr rfl rfl ((ef hnY).trans cy) rfl
    ·rw [aT, if_neg h2, aT, if_neg h1, aT, if_neg h2]
    ·rw [aT, if_neg hYn, aT, if_pos rfl]; rfl
  refine gJ hlink λ Z3 l1 l2 l3 l4 l5 => ?_
  refine bK (f6 Z3 l3 l4 l5) λ s1 s2 => ?_
  have hids : ∀ a, a ∈ (gG ⟨nid, num, b, e, fa, ra, e, 0, true⟩ 0 (T.N l x r)).ids -> a = nid \/ a ∈ (T.N l x r).ids := λ a ha => CG.mp ha
  have htree : jX Z3 tr (gG ⟨nid, num, b, e, fa, ra, e, 0, true⟩ 0 (T.N l x r)) := by
   refine ⟨⟨cnt + 1, ?_⟩, s1, List.nodup_cons.mpr ⟨λ q => ?_, zl (List.nodup_cons.mp h.nodup).2 hnt⟩, λ a ha => ?_⟩
   ·rw [l3 tr (Ne.symm hYt) n2, f3 tr htt, g2, s2]
   ·rcases hids tr q with q | q
    ·exact n2 q
    ·exact htt q
   ·rw [l2, f2, g4]
    rcases List.mem_cons.mp ha with q | q
    ·rw [q]; exact h.lt _ (List.mem_cons_self ..)
    ·rcases hids a q with q | q
     ·rw [q]; exact hlt
     ·exact h.lt _ (List.mem_cons_of_mem _ q)
  have hpos := jb b 0 (T.N l x r)
  refine xe (yt (s := (T.N l x r).shape) (k := eC b 0 (T.N l x r)) (id := nid) htree (uZ rfl rfl 0 hub) hs (by show 1 <= l.shape.size + 1 + r.shape.size; lia) h5 hpos (nK rfl 0 _) (Di (nd := ⟨nid, num, b, e, fa, ra, e, 0, true⟩) 0 _)) λ p Z4 t' c1 c2 c3 c4 c5 c6 => ?_
  refine yl .none Z4 t' (hrun .none Z4 .next [some (.ref tr), some (.ref nid), some .none, some (.ref Y.id), some (.bool il)] (aD hif ?_) rfl) c2 c3 ?_ c5 ?_
  ·rw [hmid]
   refine aD f1 ?_
   rw [l1]
   exact aD (cv (vs := [.ref tr, .ref nid]) (Z0 := Z3) rfl c1) rfl
  ·rw [c4]
   exact nL rfl 0 _ hso
  ·refine ⟨?_, λ a h1 h2 => ?_⟩
   ·have := c6.next
    rw [l2, f2, g4] at this
    exact this
   ·simp only [List.mem_cons, not_or] at h2
    have ha : a ∉ tr :: (gG ⟨nid, num, b, e, fa, ra, e, 0, true⟩ 0 (T.N l x r)).ids := λ q => by
     rcases List.mem_cons.mp q with q | q
     ·exact h2.2.1 q
     ·rcases hids a q with q | q
      ·exact h2.1 q
      ·exact h2.2.2 q
    rw [c6.old a (by rw [l2, f2, g4]; exact h1) ha, l3 a (λ q => h2.2.2 (q ▸ f4)) h2.1, f3 a h2.2.2, g3 a h2.1 h2.2.1]
theorem kp (c : ag -> M Bool) (b : ag -> M (FR × ag)) (fr : ag) (Z : St) : c0 c b fr Z = cb (c fr Z) λ t Z1 => if t then cb (b fr Z1) λ x Z2 => (match x.1 with | .next => c0 c b x.2 Z2 | .ret v => some ((.ret v, x.2), Z2)) else some ((.next, fr), Z1) := by
 cases hc : c fr Z with
 | none =>
  show c0 c b fr Z = none
  cases h : c0 c b fr Z with
  | none => rfl
  | some r =>
   obtain ⟨n, hn⟩ := jD h
   cases n with
   | zero => exact bG hn
   | succ n =>
    have : cb (c fr Z) _ = some r := hn
    rw [hc] at this; exact bG this
 | some p =>
  obtain ⟨t, Z1⟩ := p
  show c0 c b fr Z = if t = true then _ else _
  cases t with
  | false => exact jd hc
  | true =>
   show c0 c b fr Z = cb (b fr Z1) _
   cases hb : b fr Z1 with
   | none =>
    show c0 c b fr Z = none
    cases h : c0 c b fr Z with
    | none => rfl
    | some r =>
     obtain ⟨n, hn⟩ := jD h
     cases n with
     | zero => exact bG hn
     | succ n =>
      have : cb (c fr Z) _ = some r := hn
      rw [hc] at this
      have : cb (b fr Z1) _ = some r := this
      rw [hb] at this; exact bG this
   | some q =>
    obtain ⟨⟨f, fr2⟩, Z2⟩ := q
    cases f with
    | ret v => exact kq hc hb
    | next =>
     show c0 c b fr Z = c0 c b fr2 Z2
     cases h2 : c0 c b fr2 Z2 with
     | some r => exact eR hc hb h2
     | none =>
      cases h : c0 c b fr Z with
      | none => rfl
      | some r =>
       obtain ⟨n, hn⟩ := jD h
       cases n with
       | zero => exact bG hn
       | succ n =>
        have : cb (c fr Z) _ = some r := hn
        rw [hc] at this
        have : cb (b fr Z1) _ = some r := this
        rw [hb] at this
        have h3 := oi (show gu c b n fr2 Z2 = some r from this)
        rw [h2] at h3; exact bG h3
theorem sK {a b i : Nat} {fr : ag} {Z : St} {vs : List PV} {v : PV} (h1 : fr[a]? = some (some (.ref i))) (h2 : fr[b]? = some (some v)) (h3 : Z.objs i = .list vs) (h4 : vs.length < 1000) :
  bi (ds mi dv (ab a) (ab b)) fr Z = some ((.next, fr), Z.set i (.list (vs ++ [v]))) := by
 unfold bi ds ab
 rw [h1, h2]
 simp only [ei, mi, h3, dv, ↓reduceIte, h4]
theorem mq {a i : Nat} {fr : ag} {Z : St} {vs : List PV} (h1 : fr[a]? = some (some (.ref i))) (h3 : Z.objs i = .list vs) : aY (ap fM (ac (ab a) aj)) (az tD (aS 0)) fr Z = some (decide (0 < vs.length), Z) := by
 unfold aY ap ac ab
 rw [h1]
 simp only [ei, aj, fM, h3, az, aS, tD, rO]
 congr 2
 simp
theorem zI {a k i : Nat} {fr : ag} {Z : St} {vs : List PV} {v : PV} (h1 : fr[a]? = some (some (.ref i))) (h3 : Z.objs i = .list (vs ++ [v])) : aF k (nr mi xc (ab a)) fr Z = some ((.next, fr.set k (some v)), Z.set i (.list vs)) := by
 unfold aF nr ab
 rw [h1]
 simp only [ei, mi, h3, xc, ↓reduceIte, List.getLast?_concat, List.dropLast_concat]
def vJ : ag -> M (FR × ag) := (cX (aY (ak a9 (ab 5)) (az iN (ab 1))) (ai (aF 5 bq)
  aA) (ai (bi (ds mi dv (ab 4) (ab 5)))
  (ai (aF 5 (ak aM (ab 5)))
  aA)))
def zr : ag -> M (FR × ag) := c0 (aY (ab 5) (az bR bq)) (ai (bi (ap bO (ac (ab 5) aj))) (ai vJ aA))
def vA : ag -> M (FR × ag) := (ai (cX (c9 (aY (ak aX (ab 5)) (az oZ (ab 2))) (c9 (aY (ak bx (ab 5)) (az EQ (ab 1))) cR)) (ai (bi (ds mi dv (ab 3) (ab 5)))
  aA) aA)
  (ai (aF 5 (qi (aY (ak aX (ab 5)) (az oZ (ab 2))) (ak aH (ab 5)) bq))
  aA))
def qo : ag -> M (FR × ag) := (cX (aY (ap fM (ac (ab 4) aj)) (az tD (aS 0))) (ai (aF 5 (nr mi xc (ab 4))) vA) aA)
def yI : ag -> M Bool := (Dg (aY (ab 5) (az bR bq)) (Dg (aY (ap fM (ac (ab 4) aj)) (az tD (aS 0))) pX))
def u0 : ag -> M (FR × ag) := ai zr (ai qo aA)
def jF : ag -> M (FR × ag) := c0 yI u0
theorem Cm : ff = ai (aF 3 (cQ aj)) (ai (aF 4 (cQ aj)) (ai (aF 5 (ak bL (ab 0))) (ai jF (ai (cJ (ab 3)) aA)))) := rfl
noncomputable def wQ (b e : Int) : Int -> T -> T
 | _, .E => .E
 | c, .N l x r => if x.lim + (x.off + c) < b then .N (l.addOff (x.off + c)) { x with b := x.b + (x.off + c), e := x.e + (x.off + c), lim := x.lim + (x.off + c), off := 0 } (r.addOff (x.off + c))
  else .N (wQ b e (x.off + c) l) { x with b := x.b + (x.off + c), e := x.e + (x.off + c), lim := x.lim + (x.off + c), off := 0 } (if x.b + (x.off + c) <= e then wQ b e (x.off + c) r else r.addOff (x.off + c))
noncomputable def zb (b e : Int) : Int -> T -> List It
 | _, .E => []
 | c, .N l x r => if x.lim + (x.off + c) < b then [] else
  zb b e (x.off + c) l ++ ((if x.b + (x.off + c) <= e /\ b <= x.e + (x.off + c) then [⟨x.id, x.num, x.b + (x.off + c), x.e + (x.off + c)⟩] else []) ++ (if x.b + (x.off + c) <= e then zb b e (x.off + c) r else []))
noncomputable def gq (b e : Int) (it : It) : Bool := decide (it.b <= e) && decide (b <= it.e)
theorem j9 (b e : Int) : ∀ (c : Int) (t : T), (wQ b e c t).ids = t.ids /\ (wQ b e c t).ptr = t.ptr /\ (wQ b e c t).shape = t.shape /\ (wQ b e c t).inord 0 = t.inord c /\ (t.UB -> (wQ b e c t).UB) /\ (wQ b e c t).top = t.top.map (· + c)
 | _, .E => ⟨rfl, rfl, rfl, rfl, λ h => h, rfl⟩
 | c, .N l x r => by
  refine qe (j9 b e (x.off + c) l) λ a1 a2 a3 a4 a5 a6 => ?_
  refine qe (j9 b e (x.off + c) r) λ b1 b2 b3 b4 b5 b6 => ?_
  have ht : ∀ (l' r' : T), (T.N l' { x with b := x.b + (x.off + c), e := x.e + (x.off + c), lim := x.lim + (x.off + c), off := 0 } r').top = (T.N l x r).top.map (· + c) := λ l' r' => by
   show some _ = some _; congr 1; show x.lim + (x.off + c) + 0 = x.lim + x.off + c; lia
  have key : ∀ (l' r' : T), l'.ids = l.ids -> r'.ids = r.ids -> l'.shape = l.shape -> r'.shape = r.shape -> l'.inord 0 = l.inord (x.off + c) -> r'.inord 0 = r.inord (x.off + c) -> (l.UB -> l'.UB) -> (r.UB -> r'.UB) -> l'.top = l.top.map (· + (x.off + c)) -> r'.top = r.top.map (· + (x.off + c)) ->
    (T.N l' { x with b := x.b + (x.off + c), e := x.e + (x.off + c), lim := x.lim + (x.off + c), off := 0 } r').ids = (T.N l x r).ids /\ (T.N l' { x with b := x.b + (x.off + c), e := x.e + (x.off + c), lim := x.lim + (x.off + c), off := 0 } r').ptr = (T.N l x r).ptr /\ (T.N l' { x with b := x.b + (x.off + c), e := x.e + (x.off + c), lim := x.lim + (x.off + c), off := 0 } r').shape = (T.N l x r).shape /\
    (T.N l' { x with b := x.b + (x.off + c), e := x.e + (x.off + c), lim := x.lim + (x.off + c), off := 0 } r').inord 0 = (T.N l x r).inord c /\ ((T.N l x r).UB -> (T.N l' { x with b := x.b + (x.off + c), e := x.e + (x.off + c), lim := x.lim + (x.off + c), off := 0 } r').UB) := by
   intro l' r' k1 k2 k3 k4 k5 k6 k7 k8 k9 k10
   refine ⟨by rw [bJ, bJ, k1, k2], rfl, by show Sh.N l'.shape _ r'.shape = Sh.N l.shape _ r.shape; rw [k3, k4], ?_, λ ⟨u1, u2, u3, u4, u5⟩ => ⟨?_, ?_, ?_, k7 u4, k8 u5⟩⟩
   ·show l'.inord (0 + 0) ++ ⟨x.id, x.num, x.b + (x.off + c) + (0 + 0), x.e + (x.off + c) + (0 + 0)⟩ :: r'.inord (0 + 0) = l.inord (c + x.off) ++ ⟨x.id, x.num, x.b + (c + x.off), x.e + (c + x.off)⟩ :: r.inord (c + x.off)
    rw [show (0 : Int) + 0 = 0 by rfl, k5, k6, Int.add_zero, Int.add_zero, show c + x.off = x.off + c by exact Int.add_comm ..]
   ·show x.e + (x.off + c) <= x.lim + (x.off + c); exact Int.add_le_add_right (by assumption) _
   ·intro m hm; rw [k9] at hm; refine aQ (Option.map_eq_some_iff.mp hm) λ m' hm' qq2 => ?_; obtain rfl := qq2; have := u2 m' hm'; show m' + _ <= x.lim + (x.off + c); exact Int.add_le_add_right (by assumption) _
   ·intro m hm; rw [k10] at hm; refine aQ (Option.map_eq_some_iff.mp hm) λ m' hm' qq3 => ?_; obtain rfl := qq3; have := u3 m' hm'; show m' + _ <= x.lim + (x.off + c); exact Int.add_le_add_right (by assumption) _
  have ao : ∀ t : T, (t.addOff (x.off + c)).inord 0 = t.inord (x.off + c) := λ t => by rw [fQ, Int.zero_add]
  unfold wQ
  split
  ·refine iW (key (l.addOff (x.off + c)) (r.addOff (x.off + c)) (bD _ _) (bD _ _) (eo _ _) (eo _ _) (ao l) (ao r) ij ij (hZ _ _) (hZ _ _)) λ k1 k2 k3 k4 k5 => ?_
   exact ⟨k1, k2, k3, k4, k5, ht _ _⟩
  ·split
   ·refine iW (key (wQ b e (x.off + c) l) (wQ b e (x.off + c) r) a1 b1 a3 b3 a4 b4 a5 b5 a6 b6) λ k1 k2 k3 k4 k5 => ?_
    exact ⟨k1, k2, k3, k4, k5, ht _ _⟩
   ·refine iW (key (wQ b e (x.off + c) l) (r.addOff (x.off + c)) a1 (bD _ _) a3 (eo _ _) a4 (ao r) a5 ij a6 (hZ _ _)) λ k1 k2 k3 k4 k5 => ?_
    exact ⟨k1, k2, k3, k4, k5, ht _ _⟩
theorem wk : ∀ {t : T} {c m : Int}, t.UB -> t.top = some m -> ∀ it ∈ t.inord c, it.e <= m + c
 | .N l x r, c, m, ⟨u1, u2, u3, u4, u5⟩, h, it, hit => by
  cases ej h
  have hit' : it ∈ l.inord (c + x.off) ++ ⟨x.id, x.num, x.b + (c + x.off), x.e + (c + x.off)⟩ :: r.inord (c + x.off) := hit
  have sub : ∀ t : T, t.UB -> (∀ m, t.top = some m -> m <= x.lim) -> it ∈ t.inord (c + x.off) -> (∀ m, t.top = some m -> it.e <= m + (c + x.off)) -> it.e <= x.lim + x.off + c := by
   intro t ht htop hi hall
   cases q : t.top with
   | none => cases t with | E => cases hi | N _ _ _ => cases q
   | some m => have := htop m q; have := hall m q; lia
  rcases List.mem_append.mp hit' with q | q
  ·exact sub l u4 u2 q λ m hm => wk u4 hm it q
  ·rcases List.mem_cons.mp q with q | q
   ·rw [q]; show x.e + (c + x.off) <= _; lia
   ·exact sub r u5 u3 q λ m hm => wk u5 hm it q
theorem nE (b e : Int) : ∀ {t : T} {c : Int}, t.UB -> jA (t.inord c) -> zb b e c t = (t.inord c).filter (gq b e)
 | .E, _, _, _ => rfl
 | .N l x r, c, hu, hs => by
  have hall := wk hu (c := c) rfl
  refine iW hu λ u1 u2 u3 u4 u5 => ?_
  have hs' : jA (l.inord (c + x.off) ++ ⟨x.id, x.num, x.b + (c + x.off), x.e + (c + x.off)⟩ :: r.inord (c + x.off)) := hs
  have hp := List.pairwise_append.mp hs'
  have hp2 := List.pairwise_cons.mp hp.2.1
  have e1 : c + x.off = x.off + c := by exact Int.add_comm ..
  unfold zb
  split
  ·rename_i hlt
   symm
   rw [List.filter_eq_nil_iff]
   intro it hit
   have := hall it hit
   unfold gq
   simp only [Bool.and_eq_true, decide_eq_true_eq, not_and, Int.not_le]
   intro _
   lia
  ·show _ = List.filter _ (l.inord (c + x.off) ++ ⟨x.id, x.num, x.b + (c + x.off), x.e + (c + x.off)⟩ :: r.inord (c + x.off))
   rw [List.filter_append, List.filter_cons, e1]
   rw [e1] at hp hp2
   rw [nE b e u4 hp.1]
   congr 1
   have hr : (if x.b + (x.off + c) <= e then zb b e (x.off + c) r else []) = (r.inord (x.off + c)).filter (gq b e) := by
    split
    ·exact nE b e u5 hp2.2
    ·rename_i hgt
     symm
     rw [List.filter_eq_nil_iff]
     intro it hit
     have := hp2.1 it hit
     unfold gq
     simp only [Bool.and_eq_true, decide_eq_true_eq, not_and, Int.not_le]
     intro h
     have : x.b + (x.off + c) <= it.b := this
     lia
   rw [hr]
   unfold gq
   simp only [Bool.and_eq_true, decide_eq_true_eq]
   split <;> rfl
section
noncomputable def jG (tr fl wl : Nat) (b e : Int) (v : PV) : ag := [some (.ref tr), some (.int b), some (.int e), some (.ref fl), some (.ref wl), some v]
def EB (fr : ag) (Z : St) : Option ((FR × ag) × St) := cb (u0 fr Z) λ x Z2 => (match x.1 with | .next => jF x.2 Z2 | .ret v => some ((.ret v, x.2), Z2))
section
variable {tr fl wl : Nat} {b e : Int}
theorem vK {v : PV} {Z : St} {ws : List PV} (h : Z.objs wl = .list ws) (hv : v = .none \/ ∃ i, v = .ref i) : yI (jG tr fl wl b e v) Z = some (match v with | .none => decide (0 < ws.length) | _ => true, Z) := by
 have hl := mq (a := 4) (fr := jG tr fl wl b e v) (Z := Z) rfl h
 unfold yI
 rcases hv with rfl | ⟨i, rfl⟩
 ·show cb (some (false, Z)) _ = _
  show cb (aY (ap fM (ac (ab 4) aj)) (az tD (aS 0)) _ Z) _ = _
  rw [hl]
  show (if decide (0 < ws.length) = true then some (true, Z) else some (false, Z)) = _
  cases decide (0 < ws.length) <;> rfl
 ·rfl
theorem C5 {i : Nat} {Z : St} {ws : List PV} (h : Z.objs wl = .list ws) : jF (jG tr fl wl b e (.ref i)) Z = EB (jG tr fl wl b e (.ref i)) Z := by
 unfold jF
 rw [kp, vK h (.inr ⟨i, rfl⟩)]
 rfl
theorem Fa {Z : St} : zr (jG tr fl wl b e .none) Z = some ((.next, jG tr fl wl b e .none), Z) := jd rfl
theorem xS {Z : St} : u0 (jG tr fl wl b e .none) Z = ai qo aA (jG tr fl wl b e .none) Z := aD Fa rfl
theorem CZ {Z : St} {ws : List PV} (h : Z.objs wl = .list ws) : EB (jG tr fl wl b e .none) Z = jF (jG tr fl wl b e .none) Z := by
 cases ws with
 | cons w ws =>
  unfold jF
  rw [kp, vK h (.inl rfl)]
  rfl
 | nil =>
  have hp : qo (jG tr fl wl b e .none) Z = some ((.next, jG tr fl wl b e .none), Z) := by
   unfold qo cX
   rw [mq (a := 4) (fr := jG tr fl wl b e .none) (Z := Z) rfl h]
   rfl
  unfold EB
  rw [xS, aD hp rfl]
  rfl
theorem ER {i : Nat} {v : PV} {Z Z1 Z' : St} (h1 : bO [.ref i] Z = some (.none, Z1)) (h2 : vJ (jG tr fl wl b e (.ref i)) Z1 = some ((.next, jG tr fl wl b e v), Z')) : EB (jG tr fl wl b e (.ref i)) Z = EB (jG tr fl wl b e v) Z' := by
 have hin : zr (jG tr fl wl b e (.ref i)) Z = zr (jG tr fl wl b e v) Z' := by
  unfold zr
  rw [kp]
  show cb (ai _ _ _ Z) _ = _
  rw [av (Z1 := Z1) (cv (vs := [.ref i]) (Z0 := Z) rfl h1) (aD h2 rfl)]
  rfl
 unfold EB u0
 have : ai zr (ai qo aA) (jG tr fl wl b e (.ref i)) Z = ai zr (ai qo aA) (jG tr fl wl b e v) Z' := by
  unfold ai
  rw [hin]
 rw [this]
theorem Hh {i : Nat} {v : PV} {Z Z' : St} {ws : List PV} (h : Z.objs wl = .list (ws ++ [.ref i])) (h2 : vA (jG tr fl wl b e (.ref i)) (Z.set wl (.list ws)) = some ((.next, jG tr fl wl b e v), Z')) : jF (jG tr fl wl b e .none) Z = jF (jG tr fl wl b e v) Z' := by
 rw [<- CZ h]
 have hp : qo (jG tr fl wl b e .none) Z = some ((.next, jG tr fl wl b e v), Z') := by
  unfold qo cX
  rw [mq (a := 4) (fr := jG tr fl wl b e .none) (Z := Z) rfl h]
  show (if decide (0 < (ws ++ [PV.ref i]).length) = true then _ else _) = _
  rw [if_pos (by simp)]
  exact aD (zI (a := 4) (k := 5) rfl h) h2
 unfold EB
 rw [xS, aD hp rfl]
 rfl
def FB (Z : St) (it : It) : Prop := ∃ ws, Z.objs it.id = .inst 0 (it.num :: .int it.b :: .int it.e :: ws)
theorem FB.of {Z Z' : St} {it : It} (h : Z'.objs it.id = Z.objs it.id) (k : FB Z it) : FB Z' it := br k λ ws k => uN ws (h.trans k)
structure Fl (b e : Int) (fl wl : Nat) (t : T) (c : Int) (p : PV) (F ws : List PV) (Z Z' : St) : Prop where
 next : Z'.next = Z.next
 sub : Sub Z' p (wQ b e c t)
 found : Z'.objs fl = .list (F ++ (zb b e c t).map (λ it => .ref it.id))
 wait : Z'.objs wl = .list ws
 old : ∀ a, a ∉ t.ids -> a ≠ fl -> a ≠ wl -> Z'.objs a = Z.objs a
 raw : ∀ it ∈ zb b e c t, it.id ∈ t.ids /\ FB Z' it
theorem yy (b e c : Int) (l r : T) (x : Nd) : zb b e c (.N l x r) = if x.lim + (x.off + c) < b then [] else
  zb b e (x.off + c) l ++ ((if x.b + (x.off + c) <= e /\ b <= x.e + (x.off + c) then [⟨x.id, x.num, x.b + (x.off + c), x.e + (x.off + c)⟩] else []) ++ (if x.b + (x.off + c) <= e then zb b e (x.off + c) r else [])) := rfl
theorem An (l r : T) (x : Nd) : (T.N l x r).nodes.length = l.nodes.length + 1 + r.nodes.length := by show (l.nodes ++ x :: r.nodes).length = _; rw [List.length_append, List.length_cons]; lia
theorem BA {a : Nat} {l r : T} {x : Nd} (h : a ∉ (T.N l x r).ids) : a ∉ l.ids /\ a ≠ x.id /\ a ∉ r.ids := by
 rw [bJ] at h
 simp only [List.mem_append, List.mem_cons, not_or] at h
 exact h
theorem DY (b e : Int) : ∀ (t : T) (c : Int), (zb b e c t).length <= t.nodes.length := by
 intro t
 induction t with
 | E => intro c; exact Nat.le_refl _
 | N l x r i1 i2 =>
  intro c
  have j1 := i1 (x.off + c)
  have j2 := i2 (x.off + c)
  rw [An, yy]
  split
  ·exact Nat.zero_le _
  ·rw [List.length_append, List.length_append]
   split <;> split <;> simp <;> lia
theorem D6 {p : Prop} [Decidable p] {α β : Type} (f : α -> β) (a : α) : (if p then [a] else []).map f = if p then [f a] else [] := by split <;> rfl
theorem Hu {l : T} {Z : St} {L : List PV} (w : Z.objs wl = .list L) : EB (jG tr fl wl b e l.ptr) Z = jF (jG tr fl wl b e l.ptr) Z := by
 cases l with
 | E => exact CZ w
 | N _ y _ => exact (C5 w).symm
theorem C2 {Z : St} {i : Nat} {L ws : List PV} {B E : Int} {n a3 a4 a5 a6 a7 lp rp : PV} (hx : Z.objs i = .inst 0 (n :: .int B :: .int E :: a3 :: a4 :: a5 :: a6 :: a7 :: lp :: rp :: ws)) (hne : i ≠ fl) (hf : Z.objs fl = .list L) (hl : L.length < 1000) :
  ∃ Z5, vA (jG tr fl wl b e (.ref i)) Z = some ((.next, jG tr fl wl b e (if B <= e then rp else .none)), Z5) /\ Z5.next = Z.next /\ (∀ a, a ≠ fl -> Z5.objs a = Z.objs a) /\ Z5.objs fl = .list (L ++ (if B <= e /\ b <= E then [.ref i] else [])) := by
 have asg : ∀ Z', Z'.objs i = Z.objs i -> aF 5 (qi (aY (ak aX (ab 5)) (az oZ (ab 2))) (ak aH (ab 5)) bq) (jG tr fl wl b e (.ref i)) Z' = some ((.next, jG tr fl wl b e (if B <= e then rp else .none)), Z') := λ Z' h => by
  have h' := h.trans hx
  by_cases q : B <= e
  ·rw [if_pos q]; exact fA (EP (dM (aB (aw rfl) h' rfl rfl) (aw rfl) (oP q)) (aB (aw rfl) h' rfl rfl))
  ·rw [if_neg q]; exact fA (GG (dM (aB (aw rfl) h' rfl rfl) (aw rfl) (qg q)) eH)
 by_cases q : B <= e /\ b <= E
 ·exact oB (Z.set fl (.list (L ++ [.ref i]))) (av (tO (uJ (dM (aB (aw rfl) hx rfl rfl) (aw rfl) (oP q.1)) (uJ (dM (aB (aw rfl) hx rfl rfl) (aw rfl) (oP q.2)) ym)) (av (sK (a := 3) (b := 5) rfl rfl hf hl) cG)) (aD (asg _ (if_neg hne)) cG)) rfl (λ a ha => if_neg ha) (by rw [if_pos q]; exact if_pos rfl)
 ·refine oB Z (av (tq ?_ cG) (aD (asg Z rfl) cG)) rfl (λ a _ => rfl) (by rw [if_neg q, List.append_nil]; exact hf)
  by_cases q1 : B <= e
  ·exact uJ (dM (aB (aw rfl) hx rfl rfl) (aw rfl) (oP q1)) (zz (dM (aB (aw rfl) hx rfl rfl) (aw rfl) (qg λ z => q ⟨q1, z⟩)))
  ·exact zz (dM (aB (aw rfl) hx rfl rfl) (aw rfl) (qg q1))
def HY (tr fl wl : Nat) (b e : Int) (t : T) (c : Int) (p : PV) (F ws : List PV) (Z : St) : Prop := ∃ Z', Fl b e fl wl t c p F ws Z Z' /\ jF (jG tr fl wl b e t.ptr) Z = jF (jG tr fl wl b e .none) Z'
theorem Ec (hfw : fl ≠ wl) : ∀ (t : T) (c : Int) (p : PV) (Z : St) (F ws : List PV), Sub Z p (t.addOff c) -> t.ids.Nodup -> fl ∉ t.ids -> wl ∉ t.ids -> Z.objs fl = .list F -> Z.objs wl = .list ws -> F.length + t.nodes.length <= 900 -> ws.length + t.nodes.length <= 900 ->
  HY tr fl wl b e t c p F ws Z := by
 intro t
 induction t with
 | E =>
  intro c p Z F ws hs hn h1 h2 hF hw z1 z2
  exact cC Z ⟨rfl, trivial, by show _ = ee.list (F ++ []); rw [List.append_nil]; exact hF, hw, λ _ _ _ _ => rfl, λ it h => absurd h List.not_mem_nil⟩ rfl
 | N l x r ihl ihr =>
  intro c p Z F ws hs hn hfl hwl hF hw z1 z2
  have hnn : (T.N l { x with off := x.off + c } r).ids = (T.N l x r).ids := by rw [bJ, bJ]
  refine ke (wr (show Sub Z p (.N l { x with off := x.off + c } r) from hs) (hnn ▸ hn)) λ Z1 e1 e2 qq1 e6 => ?_
  rw [hnn] at e6
  have hF1 := (e6 fl hfl).trans hF
  have hw1 := (e6 wl hwl).trans hw
  refine bN (BA hfl) λ fl1 fl2 fl3 => ?_
  refine bN (BA hwl) λ wl1 wl2 wl3 => ?_
  have hxfl := Ne.symm fl2
  have hxwl := Ne.symm wl2
  have hx : Z1.objs x.id = .inst 0 [x.num, .int (x.b + (x.off + c)), .int (x.e + (x.off + c)), x.fa, x.ra, .int (x.lim + (x.off + c)), .int 0, .bool x.red, l.ptr, r.ptr, p] := by
   have h := qq1.1; rw [c8, c8] at h; exact h
  rw [An] at z1 z2
  by_cases hlim : x.lim + (x.off + c) < b
  ·have hstep : vJ (jG tr fl wl b e (.ref x.id)) Z1 = some ((.next, jG tr fl wl b e .none), Z1) := tO (dM (aB (aw rfl) hx rfl rfl) (aw rfl) (oP hlim)) (aD (fA eH) cG)
   refine cC Z1 ⟨e2, ?_, ?_, hw1, λ a ha _ _ => e6 a ha, λ it hit => ?_⟩ ((C5 hw).trans ((ER e1 hstep).trans (CZ hw1)))
   ·unfold wQ; rw [if_pos hlim]; exact qq1
   ·rw [yy, if_pos hlim]; show _ = ee.list (F ++ []); rw [List.append_nil]; exact hF1
   ·rw [yy, if_pos hlim] at hit; exact absurd hit List.not_mem_nil
  ·have hn' := hn
   rw [bJ] at hn'
   have hd := List.nodup_append.mp hn'
   have hd2 := List.nodup_cons.mp hd.2.1
   have ha := sK (a := 4) (b := 5) (fr := jG tr fl wl b e (.ref x.id)) (Z := Z1) rfl rfl hw1 (by lia)
   generalize hσ2 : Z1.set wl (.list (ws ++ [.ref x.id])) = Z2 at ha
   have w2 : Z2.objs wl = .list (ws ++ [.ref x.id]) := by rw [<- hσ2]; exact if_pos rfl
   have o2 : ∀ a, a ≠ wl -> Z2.objs a = Z1.objs a := λ a ha => by rw [<- hσ2]; exact if_neg ha
   have n2 : Z2.next = Z1.next := by rw [<- hσ2]; rfl
   have hstep : vJ (jG tr fl wl b e (.ref x.id)) Z1 = some ((.next, jG tr fl wl b e l.ptr), Z2) := tq (dM (aB (aw rfl) hx rfl rfl) (aw rfl) (qg hlim)) (av ha (aD (fA (aB (aw rfl) ((o2 x.id hxwl).trans hx) rfl rfl)) cG))
   refine aQ (ihl (x.off + c) (.ref x.id) Z2 F (ws ++ [.ref x.id]) (Sub.of (λ a ha => by rw [bD] at ha; exact o2 a (λ q => wl1 (q ▸ ha))) qq1.2.1) hd.1 fl1 wl1 ((o2 fl hfw).trans hF1) w2 (by lia) (by rw [List.length_append, List.length_singleton]; lia)) λ Z3 P3 E3 => ?_
   have hlen := DY b e l (x.off + c)
   generalize hσ4 : Z3.set wl (.list ws) = Z4
   have o4 : ∀ a, a ≠ wl -> Z4.objs a = Z3.objs a := λ a ha => by rw [<- hσ4]; exact if_neg ha
   have o41 : ∀ a, a ∉ l.ids -> a ≠ fl -> a ≠ wl -> Z4.objs a = Z1.objs a := λ a h1 h2 h3 => ((o4 a h3).trans (P3.old a h1 h2 h3)).trans (o2 a h3)
   have xl : x.id ∉ l.ids := λ q => hd.2.2 _ q _ (List.mem_cons_self ..) rfl
   refine ke (C2 (tr := tr) (wl := wl) (b := b) (e := e) ((o41 _ xl hxfl hxwl).trans hx) hxfl ((o4 fl hfw).trans P3.found) (by rw [List.length_append, List.length_map]; lia)) λ Z5 v1 v2 v3 v4 => ?_
   have hch := (C5 (tr := tr) (fl := fl) (b := b) (e := e) (i := x.id) hw).trans ((ER e1 hstep).trans ((Hu w2).trans (E3.trans (Hh P3.wait (by rw [hσ4]; exact v1)))))
   have o5 : ∀ a, a ∉ l.ids -> a ≠ fl -> a ≠ wl -> Z5.objs a = Z1.objs a := λ a h1 h2 h3 => (v3 a h2).trans (o41 a h1 h2 h3)
   have r5 : Sub Z5 (.ref x.id) (r.addOff (x.off + c)) := Sub.of (λ a ha => by
    rw [bD] at ha
    exact o5 a (λ q => hd.2.2 _ q _ (List.mem_cons_of_mem _ ha) rfl) (λ q => fl3 (q ▸ ha)) (λ q => wl3 (q ▸ ha))) qq1.2.2
   have w5 : Z5.objs wl = .list ws := (v3 wl (Ne.symm hfw)).trans (by rw [<- hσ4]; exact if_pos rfl)
   have n5 : Z5.next = Z.next := by rw [v2, <- hσ4]; show Z3.next = _; rw [P3.next, n2, e2]
   have h6 : ∃ Z6, Z6.next = Z5.next /\ Sub Z6 (.ref x.id) (if x.b + (x.off + c) <= e then wQ b e (x.off + c) r else r.addOff (x.off + c)) /\ (if x.b + (x.off + c) <= e then wQ b e (x.off + c) r else r.addOff (x.off + c)).ptr = r.ptr /\
     Z6.objs fl = .list (F ++ (zb b e (x.off + c) l).map (λ it => .ref it.id) ++ (if x.b + (x.off + c) <= e /\ b <= x.e + (x.off + c) then [.ref x.id] else []) ++ (if x.b + (x.off + c) <= e then zb b e (x.off + c) r else []).map (λ it => .ref it.id)) /\ Z6.objs wl = .list ws /\ (∀ a, a ∉ r.ids -> a ≠ fl -> a ≠ wl -> Z6.objs a = Z5.objs a) /\
     (∀ it ∈ (if x.b + (x.off + c) <= e then zb b e (x.off + c) r else []), it.id ∈ r.ids /\ FB Z6 it) /\ jF (jG tr fl wl b e (if x.b + (x.off + c) <= e then r.ptr else .none)) Z5 = jF (jG tr fl wl b e .none) Z6 := by
    by_cases h1 : x.b + (x.off + c) <= e
    ·simp only [if_pos h1]
     refine aQ (ihr (x.off + c) (.ref x.id) Z5 _ ws r5 hd2.2 fl3 wl3 v4 w5 (by rw [List.length_append, List.length_append, List.length_map]; split <;> simp <;> lia) (by lia)) λ Z6 P6 E6 => ?_
     have hf := P6.found
     exact ET Z6 P6.next P6.sub (j9 b e _ r).2.1 hf P6.wait P6.old P6.raw E6
    ·simp only [if_neg h1]
     exact ET Z5 rfl r5 (c8 ..) (by rw [v4, List.map_nil, List.append_nil]) w5 (λ _ _ _ _ => rfl) (λ it h => absurd h List.not_mem_nil) rfl
   refine EG h6 λ Z6 k1 k2 k3 k4 k5 k6 k7 k8 => ?_
   have l6 : ∀ a ∈ l.ids, Z6.objs a = Z3.objs a := λ a ha => ((k6 a (λ q => hd.2.2 _ ha _ (List.mem_cons_of_mem _ q) rfl) (λ q => fl1 (q ▸ ha)) (λ q => wl1 (q ▸ ha))).trans (v3 a (λ q => fl1 (q ▸ ha)))).trans (o4 a (λ q => wl1 (q ▸ ha)))
   have x6 := (k6 _ hd2.1 hxfl hxwl).trans ((o5 _ xl hxfl hxwl).trans hx)
   refine cC Z6 ⟨k1.trans n5, ?_, ?_, k5, λ a ha h2 h3 => ?_, λ it hit => ?_⟩ (hch.trans k8)
   ·unfold wQ; rw [if_neg hlim]
    refine ⟨?_, Sub.of (λ a ha => by rw [(j9 b e _ l).1] at ha; exact l6 a ha) P3.sub, k2⟩
    rw [(j9 b e _ l).2.1, k3]; exact x6
   ·rw [k4, yy, if_neg hlim, List.map_append, List.map_append, D6, <- List.append_assoc, <- List.append_assoc]
   ·refine bN (BA ha) λ a1 a2 a3 => ?_
    exact ((k6 a a3 h2 h3).trans (o5 a a1 h2 h3)).trans (e6 a ha)
   ·rw [yy, if_neg hlim] at hit
    rw [bJ]
    rcases List.mem_append.mp hit with q | q
    ·exact bK (P3.raw it q) λ m1 m2 => ⟨List.mem_append_left _ m1, m2.of (l6 _ m1)⟩
    ·rcases List.mem_append.mp q with q | q
     ·split at q
      ·rw [List.mem_singleton.mp q]
       exact ⟨List.mem_append_right _ (List.mem_cons_self ..), uN _ x6⟩
      ·exact absurd q List.not_mem_nil
     ·exact bK (k7 it q) λ m1 m2 => ⟨List.mem_append_right _ (List.mem_cons_of_mem _ m1), m2⟩
end
theorem D4 {Z : St} {tr : Nat} {t : T} {b e : Int} (h : jX Z tr t) (hub : t.UB) (hs : t.shape ∈ LS) (hso : jA (t.inord 0)) :
  ∃ fl Z' t', bF [.ref tr, .int b, .int e] Z = some (.ref fl, Z') /\ jX Z' tr t' /\ t'.shape ∈ LS /\ t'.inord 0 = t.inord 0 /\ t'.UB /\ xU Z t.ids Z' /\ Z.next <= fl /\ fl < Z'.next /\ fl ∉ t'.ids /\
   Z'.objs fl = .list (((t.inord 0).filter (gq b e)).map (λ it => .ref it.id)) /\ ∀ it ∈ (t.inord 0).filter (gq b e), FB Z' it := by
 refine br h.root λ cnt hc => ?_
 have htlt : tr < Z.next := h.lt _ (List.mem_cons_self ..)
 have hilt : ∀ a ∈ t.ids, a < Z.next := λ a ha => h.lt a (List.mem_cons_of_mem _ ha)
 have hsz : t.nodes.length <= 6 := by rw [<- T.shape_size]; exact wm hs
 generalize hσ1 : (Z.push (.list [])).push (.list []) = Z1
 have n1 : Z1.next = Z.next + 2 := by rw [<- hσ1]; rfl
 have o1 : ∀ a, a < Z.next -> Z1.objs a = Z.objs a := λ a ha => by
  rw [<- hσ1]
  show (if a = Z.next + 1 then _ else if a = Z.next then _ else _) = _
  rw [if_neg (by lia), if_neg (by lia)]
 have f1 : Z1.objs Z.next = .list [] := by
  rw [<- hσ1]
  show (if Z.next = Z.next + 1 then _ else if Z.next = Z.next then _ else _) = _
  rw [if_neg (by lia), if_pos rfl]
 have w1 : Z1.objs (Z.next + 1) = .list [] := by rw [<- hσ1]; exact if_pos rfl
 have hsub1 : Sub Z1 .none (t.addOff 0) := by
  have : t.addOff 0 = t := by cases t with | E => rfl | N l x r => show T.N l { x with off := x.off + 0 } r = _; rw [Int.add_zero]
  rw [this]
  exact Sub.of (λ a ha => o1 a (hilt a ha)) h.sub
 refine aQ (Ec (tr := tr) (fl := Z.next) (wl := Z.next + 1) (b := b) (e := e) (by lia) t 0 .none Z1 [] [] hsub1 (List.nodup_cons.mp h.nodup).2 (λ q => Nat.lt_irrefl _ (hilt _ q)) (λ q => by have := hilt _ q; lia) f1 w1 (by simp; lia) (by simp; lia)) λ Z' P hE => ?_
 have hend : jF (jG tr Z.next (Z.next + 1) b e .none) Z' = some ((.next, jG tr Z.next (Z.next + 1) b e .none), Z') := by
  unfold jF
  rw [kp, vK P.wait (.inl rfl)]
  rfl
 have hc1 : Z1.objs tr = .inst 1 [t.ptr, .int cnt] := (o1 tr htlt).trans hc
 have hrun : ff [some (.ref tr), some (.int b), some (.int e), none, none, none] Z = some ((.ret (.ref Z.next), jG tr Z.next (Z.next + 1) b e .none), Z') := by
  rw [Cm]
  refine aD (Z1 := Z.push (.list [])) (fr1 := [some (.ref tr), some (.int b), some (.int e), some (.ref Z.next), none, none]) rfl (aD (Z1 := Z1) (fr1 := [some (.ref tr), some (.int b), some (.int e), some (.ref Z.next), some (.ref (Z.next + 1)), none]) (by rw [<- hσ1]; rfl) (aD (Z1 := Z1) (fr1 := jG tr Z.next (Z.next + 1) b e t.ptr) ?_ (aD (hE.trans hend) rfl)))
  simp only [aF, ak, ab, ei, dU, bL, List.lookup, List.getElem?_cons_zero, beq_self_eq_true, List.set, Option.some.injEq, Prod.mk.injEq, true_and, hc1]
  exact ⟨rfl, trivial⟩
 have hk := j9 b e 0 t
 have hfil : zb b e 0 t = (t.inord 0).filter (gq b e) := nE b e hub hso
 have hnt : ∀ a, Z.next <= a -> a ∉ t.ids := λ a ha q => by have := hilt a q; lia
 have oldF : ∀ a, a < Z.next -> a ∉ t.ids -> Z'.objs a = Z.objs a := λ a h1 h2 => by rw [P.old a h2 (by lia) (by lia), o1 a h1]
 refine F0 Z.next Z' (wQ b e 0 t) ?_ ⟨⟨cnt, ?_⟩, P.sub, by rw [hk.1]; exact h.nodup, λ a ha => ?_⟩ (by rw [hk.2.2.1]; exact hs) hk.2.2.2.1 (hk.2.2.2.2.1 hub) ⟨by rw [P.next, n1]; lia, λ a h1 h2 => oldF a h1 h2⟩ (Nat.le_refl _) (by rw [P.next, n1]; lia) (by rw [hk.1]; exact hnt _ (Nat.le_refl _)) ?_ (λ it hit => ?_)
 ·unfold bF bg
  rw [if_pos (show [PV.ref tr, PV.int b, PV.int e].length = 3 from rfl)]
  show cb (ff [some (.ref tr), some (.int b), some (.int e), none, none, none] Z) _ = _
  rw [hrun]; rfl
 ·rw [oldF tr htlt (List.nodup_cons.mp h.nodup).1, hc, hk.2.1]
 ·rw [hk.1] at ha
  have := h.lt a ha
  rw [P.next, n1]; lia
 ·rw [P.found, hfil]; rfl
 ·rw [<- hfil] at hit
  exact (P.raw it hit).2
end
inductive Lm : T -> T -> Prop
 | E : Lm .E .E
 | N {l l' r r' : T} (x : Nd) (m : Int) : Lm l l' -> Lm r r' -> Lm (.N l x r) (.N l' { x with lim := m } r')
theorem Lm.nI {l r t' : T} {x : Nd} (h : Lm (.N l x r) t') : ∃ l' r' M, t' = .N l' { x with lim := M } r' /\ Lm l l' /\ Lm r r' := by
 cases h with
 | N _ M h1 h2 => exact EU _ _ M rfl h1 h2
theorem Lm.refl : ∀ t : T, Lm t t
 | .E => .E
 | .N l x r => Lm.N x x.lim (Lm.refl l) (Lm.refl r)
theorem Lm.trans {a b c : T} (h : Lm a b) (k : Lm b c) : Lm a c := by
 induction h generalizing c with
 | E => exact k
 | N x m _ _ ih1 ih2 =>
  cases k with
  | N _ m' k1 k2 => exact Lm.N x m' (ih1 k1) (ih2 k2)
theorem Lm.keep {t t' : T} (h : Lm t t') : t'.ids = t.ids /\ t'.ptr = t.ptr /\ t'.shape = t.shape /\ ∀ c, t'.inord c = t.inord c := by
 induction h with
 | E => exact ⟨rfl, rfl, rfl, λ _ => rfl⟩
 | N x m _ _ ih1 ih2 =>
  refine ⟨by rw [bJ, bJ, ih1.1, ih2.1], rfl, ?_, λ c => ?_⟩
  ·show Sh.N _ _ _ = Sh.N _ _ _; rw [ih1.2.2.1, ih2.2.2.1]
  ·show _ ++ _ :: _ = _ ++ _ :: _; rw [ih1.2.2.2, ih2.2.2.2]
inductive Cx where
 | top | L (C : Cx) (x : Nd) (r : T) | R (C : Cx) (l : T) (x : Nd)
noncomputable def Cx.plug : Cx -> T -> T
 | .top, t => t
 | .L C x r, t => C.plug (.N t x r)
 | .R C l x, t => C.plug (.N l x t)
def Cx.par : Cx -> PV
 | .top => .none
 | .L _ x _ => .ref x.id
 | .R _ _ x => .ref x.id
theorem iK : ∀ (C : Cx) (t : T), ∃ a b, ∀ t2, (C.plug t2).ids = a ++ t2.ids ++ b
 | .top, t => ⟨[], [], λ t2 => by simp [Cx.plug]⟩
 | .L C x r, t => by
  refine fj (iK C .E) λ a b h => ?_
  exact sc a (x.id :: r.ids ++ b) (λ t2 => by rw [Cx.plug, h, bJ]; simp)
 | .R C l x, t => by
  refine fj (iK C .E) λ a b h => ?_
  exact sc (a ++ l.ids ++ [x.id]) b (λ t2 => by rw [Cx.plug, h, bJ]; simp)
theorem kV {C : Cx} {t : T} (h : (C.plug t).ids.Nodup) : t.ids.Nodup /\ ∀ x ∈ t.ids, x ∈ (C.plug t).ids := by
 refine fj (iK C t) λ a b e => ?_
 rw [e t] at h |-
 exact ⟨(List.nodup_append.mp (List.nodup_append.mp h).1).2.1, λ x hx => List.mem_append_left _ (List.mem_append_right _ hx)⟩
theorem jf {Z Z' : St} : ∀ (C : Cx) {t : T}, Sub Z .none (C.plug t) -> (C.plug t).ids.Nodup -> Sub Z C.par t /\
  ∀ t2 : T, Sub Z' C.par t2 -> t2.ptr = t.ptr -> (∀ a, a ∈ (C.plug t).ids -> a ∉ t.ids -> Z'.objs a = Z.objs a) -> Sub Z' .none (C.plug t2)
 | .top, t, h, _ => ⟨h, λ t2 h2 _ _ => h2⟩
 | .L C x r, t, h, hn => by
  refine bK (jf (Z' := Z') C (t := .N t x r) h hn) λ qq1 h4 => ?_; obtain ⟨h1, h2, h3⟩ := qq1
  refine bK (kV (C := C) (t := .N t x r) hn) λ n1 n2 => ?_
  rw [bJ] at n1
  have hd := List.nodup_append.mp n1
  refine ⟨h2, λ t2 k1 k2 k3 => h4 (.N t2 x r) ⟨?_, k1, Sub.of (λ a ha => ?_) h3⟩ rfl λ a ha hx => k3 a ha λ q => hx (by rw [bJ]; exact List.mem_append_left _ q)⟩
  ·rw [k3 x.id (n2 _ (by rw [bJ]; exact List.mem_append_right _ (List.mem_cons_self ..))) (λ q => hd.2.2 _ q _ (List.mem_cons_self ..) rfl), k2]; exact h1
  ·exact k3 a (n2 _ (by rw [bJ]; exact List.mem_append_right _ (List.mem_cons_of_mem _ ha))) (λ q => hd.2.2 _ q _ (List.mem_cons_of_mem _ ha) rfl)
 | .R C l x, t, h, hn => by
  refine bK (jf (Z' := Z') C (t := .N l x t) h hn) λ qq2 h4 => ?_; obtain ⟨h1, h2, h3⟩ := qq2
  refine bK (kV (C := C) (t := .N l x t) hn) λ n1 n2 => ?_
  rw [bJ] at n1
  have hd := List.nodup_append.mp n1
  have hd2 := List.nodup_cons.mp hd.2.1
  refine ⟨h3, λ t2 k1 k2 k3 => h4 (.N l x t2) ⟨?_, Sub.of (λ a ha => ?_) h2, k1⟩ rfl λ a ha hx => k3 a ha λ q => hx (by rw [bJ]; exact List.mem_append_right _ (List.mem_cons_of_mem _ q))⟩
  ·rw [k3 x.id (n2 _ (by rw [bJ]; exact List.mem_append_right _ (List.mem_cons_self ..))) hd2.1, k2]; exact h1
  ·exact k3 a (n2 _ (by rw [bJ]; exact List.mem_append_left _ ha)) (λ q => hd.2.2 _ ha _ (List.mem_cons_of_mem _ q) rfl)
theorem q6 : ∀ (C : Cx) {t : T}, (C.plug t).UB -> t.UB /\ ∀ t2 : T, t2.UB -> (∀ m, t2.top = some m -> ∃ m', t.top = some m' /\ m <= m') -> (C.plug t2).UB
 | .top, t, h => ⟨h, λ t2 h2 _ => h2⟩
 | .L C x r, t, h => by
  refine bK (q6 C (t := .N t x r) h) λ qq3 k => ?_; obtain ⟨u1, u2, u3, u4, u5⟩ := qq3
  exact ⟨u4, λ t2 h2 h3 => k (.N t2 x r) ⟨u1, (λ m hm => by refine aQ (h3 m hm) λ m' e le => ?_; have := u2 m' e; exact Int.le_trans (by assumption) (by assumption)), u3, h2, u5⟩ λ m hm => ⟨m, hm, Int.le_refl _⟩⟩
 | .R C l x, t, h => by
  refine bK (q6 C (t := .N l x t) h) λ qq4 k => ?_; obtain ⟨u1, u2, u3, u4, u5⟩ := qq4
  exact ⟨u5, λ t2 h2 h3 => k (.N l x t2) ⟨u1, u2, (λ m hm => by refine aQ (h3 m hm) λ m' e le => ?_; have := u3 m' e; exact Int.le_trans (by assumption) (by assumption)), u4, h2⟩ λ m hm => ⟨m, hm, Int.le_refl _⟩⟩
theorem oH : ∀ (C : Cx) {t t2 : T}, Lm t t2 -> Lm (C.plug t) (C.plug t2)
 | .top, _, _, h => h
 | .L C x r, _, _, h => oH C (Lm.N x x.lim h (Lm.refl r))
 | .R C l x, _, _, h => oH C (Lm.N x x.lim (Lm.refl l) h)
inductive CU : Cx -> Cx -> Prop
 | top : CU .top .top
 | L {C C' : Cx} {r r' : T} (x : Nd) (m : Int) : CU C C' -> Lm r r' -> CU (.L C x r) (.L C' { x with lim := m } r')
 | R {C C' : Cx} {l l' : T} (x : Nd) (m : Int) : CU C C' -> Lm l l' -> CU (.R C l x) (.R C' l' { x with lim := m })
theorem CU.plug {C C' : Cx} (h : CU C C') : ∀ {t t' : T}, Lm t t' -> Lm (C.plug t) (C'.plug t') := by
 induction h with
 | top => exact λ h => h
 | L x m _ k ih => exact λ h => ih (Lm.N x m h k)
 | R x m _ k ih => exact λ h => ih (Lm.N x m k h)
theorem CU.par {C C' : Cx} (h : CU C C') : C'.par = C.par := by cases h <;> rfl
theorem vM : ∀ (C : Cx) {t u : T}, Lm (C.plug t) u -> ∃ C' t', u = C'.plug t' /\ CU C C' /\ Lm t t'
 | .top, t, u, h => ⟨.top, u, rfl, .top, h⟩
 | .L C x r, t, u, h => by
  refine gX (vM C (t := .N t x r) h) λ C' t' qq5 h1 h2 => ?_; obtain rfl := qq5
  cases h2 with
  | N _ m k1 k2 => exact kc (.L C' { x with lim := m } _) _ rfl (.L x m h1 k2) k1
 | .R C l x, t, u, h => by
  refine gX (vM C (t := .N l x t) h) λ C' t' qq6 h1 h2 => ?_; obtain rfl := qq6
  cases h2 with
  | N _ m k1 k2 => exact kc (.R C' _ { x with lim := m }) _ rfl (.R x m h1 k1) k2
def gT (k : Int) (t : T) : Int := match t.top with
 | none => k
 | some m => mx k m
def ti (x : Nd) (l r : T) : Int := gT (gT x.e l) r
theorem EN {k L : Int} {t : T} (h : k <= L) (ht : ∀ m, t.top = some m -> m <= L) : gT k t <= L := by
 unfold gT
 split
 ·exact h
 ·rename_i m hm
  unfold mx; split
  ·exact ht m hm
  ·exact h
theorem yg {k : Int} {t : T} : k <= gT k t /\ ∀ m, t.top = some m -> m <= gT k t := by
 unfold gT
 cases t.top with
 | none => exact ⟨Int.le_refl _, λ m h => by exact bG h⟩
 | some m => exact ⟨ze _ _, λ m' h => by cases ej h; exact C9 _ _⟩
theorem E2 {x : Nd} {l r : T} (h : (T.N l x r).UB) : ti x l r <= x.lim := iW h λ u1 u2 u3 _ _ => EN (EN u1 u2) u3
theorem yY {x : Nd} {l r : T} : x.e <= ti x l r /\ (∀ m, l.top = some m -> m <= ti x l r) /\ (∀ m, r.top = some m -> m <= ti x l r) :=
 ⟨Int.le_trans yg.1 yg.1, λ m h => Int.le_trans (yg.2 m h) yg.1, yg.2⟩
def HT : ag -> M (FR × ag) := (ai (cX (aY (ab 2) (az bR bq)) (ai (aF 1 (ap lC (ac (ab 1) (ac (bA dq (ak a9 (ab 2)) (ak aL (ab 2))) aj)))) aA) aA) aA)
theorem zv {Z : St} {p : PV} {t : T} {a : Option PV} {k : Int} (h : Sub Z p t) : HT [a, some (.int k), some t.ptr] Z = some ((.next, [a, some (.int (gT k t)), some t.ptr]), Z) := by
 cases t with
 | E => exact av (tq (dM (aw rfl) eH rfl) cG) cG
 | N l x r => exact aD (tO (dM (aw rfl) eH rfl) (aD (fA (bo (vs := [.int k, .int (x.lim + x.off)]) (Z0 := Z) (aI (aw rfl) (aI (jK (aB (aw rfl) h.1 rfl rfl) (aB (aw rfl) h.1 rfl rfl)) bZ)) rfl)) cG)) cG
theorem Dv {Z : St} {p : PV} {l r : T} {x : Nd} (h : Sub Z p (.N l x r)) : ck [.ref x.id] Z = some (.int (ti x l r), Z) :=
 kF rfl (aD (fA (aB (aw rfl) h.1 rfl rfl)) (aD (q7 (vs := [l.ptr, r.ptr]) (ip (aI (aB (aw rfl) h.1 rfl rfl) (aI (aB (aw rfl) h.1 rfl rfl) bZ)) (show 2 <= 1000 by decide)) (show 2 <= 1000 by decide) (gD (zv h.2.1) (gD (zv h.2.2) rfl))) (bv (mD (aw rfl)))))
def CE : ag -> M Bool := aY (ab 0) (az bR bq)
def pS : ag -> M (FR × ag) := (ai (aF 1 (ap ck (ac (ab 0) aj)))
  (ai (cX (aY (ab 1) (az fq (ak a9 (ab 0)))) (ai jl
  aA) aA)
  (ai (am a9 (ab 0) (ab 1))
  (ai (aF 0 (ak aR (ab 0)))
  aA))))
theorem C7 : gK = ai (c0 CE pS) aA := rfl
theorem D0 {Z : St} {p : PV} {l r : T} {x : Nd} {o : Option PV} (h : Sub Z p (.N l x r)) :
  (pS [some (.ref x.id), o] Z = some ((.ret .none, [some (.ref x.id), some (.int (ti x l r))]), Z)) \/
  (pS [some (.ref x.id), o] Z = some ((.next, [some p, some (.int (ti x l r))]), Z.set x.id (Nd.obj { x with lim := ti x l r } l.ptr r.ptr p))) := by
 have hx : Z.objs x.id = .inst 0 [x.num, .int x.b, .int x.e, x.fa, x.ra, .int x.lim, .int x.off, .bool x.red, l.ptr, r.ptr, p] := h.1
 have ha : aF 1 (ap ck (ac (ab 0) aj)) [some (.ref x.id), o] Z = some ((.next, [some (.ref x.id), some (.int (ti x l r))]), Z) := fA (bo (vs := [.ref x.id]) (Z0 := Z) rfl (Dv h))
 have ht : aY (ab 1) (az fq (ak a9 (ab 0))) [some (.ref x.id), some (.int (ti x l r))] Z = some (ti x l r == x.lim, Z) := dM (aw rfl) (aB (aw rfl) hx rfl rfl) rfl
 by_cases hc : ti x l r = x.lim
 ·exact .inl (aD ha (bv (tO (ht.trans (by rw [beq_iff_eq.mpr hc])) rfl)))
 ·exact .inr (aD ha (av (tq (ht.trans (by rw [beq_false_of_ne hc])) cG) (av (cr (aw rfl) (aw rfl) hx rfl) (aD (fA (aB (aw rfl) cy rfl rfl)) cG))))
theorem CF (D : Cx) {l r : T} {x : Nd} {Z : St} {o : Option PV} (hs : Sub Z .none (D.plug (.N l x r))) (hn : (D.plug (.N l x r)).ids.Nodup) (hu : (D.plug (.N l x r)).UB) :
  (pS [some (.ref x.id), o] Z = some ((.ret .none, [some (.ref x.id), some (.int (ti x l r))]), Z)) \/
  ∃ Z1, pS [some (.ref x.id), o] Z = some ((.next, [some D.par, some (.int (ti x l r))]), Z1) /\ Z1.next = Z.next /\ Sub Z1 .none (D.plug (.N l { x with lim := ti x l r } r)) /\ (D.plug (.N l { x with lim := ti x l r } r)).UB /\ (D.plug (.N l { x with lim := ti x l r } r)).ids = (D.plug (.N l x r)).ids /\ ∀ a, a ∉ (D.plug (.N l x r)).ids -> Z1.objs a = Z.objs a := by
 have hsx := (jf (Z' := Z) D hs hn).1
 refine (D0 (o := o) hsx).elim .inl λ h => .inr ?_
 have hn2 := kV (C := D) (t := .N l x r) hn
 have hn' := hn2.1
 rw [bJ] at hn'
 have hd := List.nodup_append.mp hn'
 have hd2 := List.nodup_cons.mp hd.2.1
 have hxm : x.id ∈ (T.N l x r).ids := by rw [bJ]; exact List.mem_append_right _ (List.mem_cons_self ..)
 refine Db _ h rfl ((jf D hs hn).2 (.N l { x with lim := ti x l r } r) (bN hsx λ h1 h2 h3 => ⟨if_pos rfl, Sub.of (λ a ha => if_neg (λ q => hd.2.2 _ ha _ (List.mem_cons_self ..) q)) h2, Sub.of (λ a ha => if_neg (λ q : a = x.id => hd2.1 (by rw [<- q]; exact ha))) h3⟩) rfl λ a _ ha => if_neg λ q => ha (by rw [q]; exact hxm)) ?_ ((oH D (Lm.N x _ (Lm.refl l) (Lm.refl r))).keep.1) (λ a ha => if_neg λ q => ha (hn2.2 a (by rw [q]; exact hxm)))
 have hux := q6 D hu
 refine hux.2 _ (iW hux.1 λ _ _ _ u4 u5 => ⟨yY.1, yY.2.1, yY.2.2, u4, u5⟩) λ m hm => ?_
 cases hm
 exact cC (x.lim + x.off) rfl (Int.add_le_add_right (E2 hux.1) _)
def HW (C : Cx) (l r : T) (x : Nd) (o : Option PV) (Z : St) : Prop := ∃ f fr Z' T', c0 CE pS [some (.ref x.id), o] Z = some ((f, fr), Z') /\ (f = .next \/ f = .ret .none) /\ Z'.next = Z.next /\ Sub Z' .none T' /\ Lm (C.plug (.N l x r)) T' /\ T'.UB /\ ∀ a, a ∉ (C.plug (.N l x r)).ids -> Z'.objs a = Z.objs a
theorem DB : ∀ (C : Cx) (l : T) (x : Nd) (r : T) (o : Option PV) (Z : St), Sub Z .none (C.plug (.N l x r)) -> (C.plug (.N l x r)).ids.Nodup -> (C.plug (.N l x r)).UB -> HW C l r x o Z := by
 intro C
 induction C with
 | top =>
  intro l x r o Z hs hn hu
  exact (CF .top (o := o) hs hn hu).elim (λ h => td _ _ Z _ (kq rfl h) (.inr rfl) rfl hs (Lm.refl _) hu (λ _ _ => rfl)) λ h => uL h λ Z1 h1 h2 h3 h4 _ h6 => td .next _ Z1 _ (eR rfl h1 (jd rfl)) (.inl rfl) h2 h3 (Lm.N x _ (Lm.refl l) (Lm.refl r)) h4 h6
 | L C y r0 ih =>
  intro l x r o Z hs hn hu
  exact (CF (.L C y r0) (o := o) hs hn hu).elim (λ h => td _ _ Z _ (kq rfl h) (.inr rfl) rfl hs (Lm.refl _) hu (λ _ _ => rfl)) λ h => uL h λ Z1 h1 h2 h3 h4 h5 h6 => uH (ih (.N l { x with lim := ti x l r } r) y r0 (some (.int (ti x l r))) Z1 h3 (h5 ▸ hn) h4) λ f fr Z' T' k1 k2 k3 k4 k5 k6 k7 => td f fr Z' T' (eR rfl h1 k1) k2 (k3.trans h2) k4 ((oH (.L C y r0) (Lm.N x _ (Lm.refl l) (Lm.refl r))).trans k5) k6 (λ a ha => (k7 a (λ q => ha (h5 ▸ q))).trans (h6 a ha))
 | R C l0 y ih =>
  intro l x r o Z hs hn hu
  exact (CF (.R C l0 y) (o := o) hs hn hu).elim (λ h => td _ _ Z _ (kq rfl h) (.inr rfl) rfl hs (Lm.refl _) hu (λ _ _ => rfl)) λ h => uL h λ Z1 h1 h2 h3 h4 h5 h6 => uH (ih l0 y (.N l { x with lim := ti x l r } r) (some (.int (ti x l r))) Z1 h3 (h5 ▸ hn) h4) λ f fr Z' T' k1 k2 k3 k4 k5 k6 k7 => td f fr Z' T' (eR rfl h1 k1) k2 (k3.trans h2) k4 ((oH (.R C l0 y) (Lm.N x _ (Lm.refl l) (Lm.refl r))).trans k5) k6 (λ a ha => (k7 a (λ q => ha (h5 ▸ q))).trans (h6 a ha))
theorem Do {C : Cx} {l : T} {x : Nd} {r : T} {Z : St} (hs : Sub Z .none (C.plug (.N l x r))) (hn : (C.plug (.N l x r)).ids.Nodup) (hu : (C.plug (.N l x r)).UB) :
  ∃ Z' T', eM [.ref x.id] Z = some (.none, Z') /\ Z'.next = Z.next /\ Sub Z' .none T' /\ Lm (C.plug (.N l x r)) T' /\ T'.UB /\ ∀ a, a ∉ (C.plug (.N l x r)).ids -> Z'.objs a = Z.objs a := by
 refine CH (DB C l x r none Z hs hn hu) λ f fr Z' T' h1 h2 r3 => ?_
 refine lW Z' T' ?_ r3
 unfold eM bg
 rw [if_pos (show [PV.ref x.id].length = 1 from rfl)]
 show cb (gK [some (.ref x.id), none] Z) _ = _
 rw [C7]
 rcases h2 with rfl | rfl
 ·rw [aD h1 rfl]; rfl
 ·rw [bv h1]; rfl
section
def et (at_ many x : Int) : Int := if at_ < x then mx at_ (x - many) else x
def zh (at_ many : Int) (it : It) : It := ⟨it.id, it.num, et at_ many it.b, et at_ many it.e⟩
noncomputable def Hw (d : Int) (it : It) : It := ⟨it.id, it.num, it.b + d, it.e + d⟩
theorem mt (d : Int) : ∀ (t : T) (c : Int), t.inord (c + d) = (t.inord c).map (Hw d)
 | .E, _ => rfl
 | .N l x r, c => by
  show l.inord (c + d + x.off) ++ ⟨x.id, x.num, x.b + (c + d + x.off), x.e + (c + d + x.off)⟩ :: r.inord (c + d + x.off) = List.map _ (l.inord (c + x.off) ++ ⟨x.id, x.num, x.b + (c + x.off), x.e + (c + x.off)⟩ :: r.inord (c + x.off))
  rw [List.map_append, List.map_cons, show c + d + x.off = c + x.off + d by exact Int.add_right_comm .., mt d l, mt d r]
  unfold Hw
  congr 3 <;> (dsimp only; exact (Int.add_assoc ..).symm)
theorem Fe {a m x : Int} (hm : 0 < m) : et a m x <= x := by unfold et mx; split <;> (try split) <;> lia
theorem rv {a m x : Int} (h : x <= a) : et a m x = x := by unfold et; rw [if_neg (by exact Int.not_lt.mpr (by assumption))]
theorem C0 {a m x : Int} (hm : 0 < m) (h : a + m < x) : et a m x = x - m := by unfold et mx; rw [if_pos (by lia), if_pos (by lia)]
theorem rP {a m x y : Int} (hm : 0 < m) (h : x <= y) : et a m x <= et a m y := by unfold et mx; split <;> split <;> (try split) <;> (try split) <;> lia
def GT (Z : St) (tr : Nat) (t : T) : Prop := ∃ u, Lm t u /\ u.UB /\ jX Z tr u
def Hm : ag -> M (FR × ag) := (cX (c9 (aY (ak aH (ab 4)) (az bR bq)) (c9 (aY (ak aX (ab 4)) (az tD (bA dq (ab 1) (ab 2)))) cR)) (ai (am aL (ak aH (ab 4)) (bA hH (ak aL (ak aH (ab 4))) (ab 2)))
  aA) (ai (bi (ds mi dv (ab 3) (ak aH (ab 4))))
  aA))
def G0 : ag -> M (FR × ag) := (bi (ds mi dv (ab 3) (ak aM (ab 4))))
def zn : ag -> M (FR × ag) := (cX (aY (ak aX (ab 4)) (az tD (ab 1))) (ai (am aX (ab 4) (ap lC (ac (ab 1) (ac (bA hH (ak aX (ab 4)) (ab 2)) aj))))
  aA) aA)
def yK : ag -> M (FR × ag) := (cX (aY (ak bx (ab 4)) (az tD (ab 1))) (ai (am bx (ab 4) (ap lC (ac (ab 1) (ac (bA hH (ak bx (ab 4)) (ab 2)) aj))))
  aA) aA)
def FD : ag -> M (FR × ag) := (bi (ap eM (ac (ab 4) aj)))
def yL : ag -> M (FR × ag) := (cX (aY (ak a9 (ab 4)) (az tD (ab 1))) (ai Hm (ai G0 (ai zn (ai yK (ai FD aA))))) aA)
def vI : ag -> M (FR × ag) := (cX (aY (ab 4) (az bR bq)) (ai (bi (ap bO (ac (ab 4) aj))) (ai yL aA)) aA)
def v9 : ag -> M (FR × ag) := ai (aF 4 (nr mi xc (ab 3))) (ai vI aA)
def rD : ag -> M Bool := (aY (ap fM (ac (ab 3) aj)) (az tD (aS 0)))
def lA : ag -> M (FR × ag) := c0 rD v9
theorem Cy : jM = ai (cX (aY (ab 2) (az oZ (aS 0))) (ai jl aA) aA) (ai (aF 3 (cQ (ac (ak bL (ab 0)) aj))) (ai lA aA)) := rfl
noncomputable def iL (tr wl : Nat) (a m : Int) (o : Option PV) : ag := [some (.ref tr), some (.int a), some (.int m), some (.ref wl), o]
theorem qw {a i : Nat} {e : ag -> M PV} {fr : ag} {Z : St} {vs : List PV} {v : PV} (h1 : fr[a]? = some (some (.ref i))) (h2 : e fr Z = some (v, Z)) (h3 : Z.objs i = .list vs) (h4 : vs.length < 1000) :
  bi (ds mi dv (ab a) e) fr Z = some ((.next, fr), Z.set i (.list (vs ++ [v]))) := by
 unfold bi ds ab
 rw [h1]
 simp only [ei, mi, h3, ↓reduceIte]
 rw [h2]
 simp only [ei, dv, h3, ↓reduceIte, h4]
section
variable {tr wl : Nat} {a m : Int}
theorem zA {o : Option PV} {v : PV} {ws : List PV} {Z Z' : St} (h : Z.objs wl = .list (ws ++ [v])) (h2 : vI (iL tr wl a m (some v)) (Z.set wl (.list ws)) = some ((.next, iL tr wl a m (some v)), Z')) : lA (iL tr wl a m o) Z = lA (iL tr wl a m (some v)) Z' := by
 unfold lA
 rw [kp]
 have hc : rD (iL tr wl a m o) Z = some (true, Z) := by
  unfold rD
  rw [mq (a := 3) (fr := iL tr wl a m o) rfl h]
  simp
 rw [hc]
 have hb : v9 (iL tr wl a m o) Z = some ((.next, iL tr wl a m (some v)), Z') := by
  unfold v9
  exact aD (zI (a := 3) (k := 4) rfl h) (aD h2 rfl)
 show cb (v9 _ Z) _ = _
 rw [hb]
 rfl
theorem DD {i : Nat} {Z : St} {w0 : PV} {ws : List PV} {b e : Int} (h : Z.objs i = .inst 0 (w0 :: .int b :: .int e :: ws)) :
  ∃ Z', ai zn (ai yK (ai FD aA)) (iL tr wl a m (some (.ref i))) Z = ai FD aA (iL tr wl a m (some (.ref i))) Z' /\ (Z'.next = Z.next /\ (∀ j, j ≠ i -> Z'.objs j = Z.objs j) /\ Z'.objs i = .inst 0 (w0 :: .int (et a m b) :: .int (et a m e) :: ws)) := by
 have h1 : ∃ Z1, zn (iL tr wl a m (some (.ref i))) Z = some ((.next, iL tr wl a m (some (.ref i))), Z1) /\ Z1.next = Z.next /\ (∀ j, j ≠ i -> Z1.objs j = Z.objs j) /\ Z1.objs i = .inst 0 (w0 :: .int (et a m b) :: .int e :: ws) := by
  unfold zn iL
  by_cases hc : a < b
  ·have hg : et a m b = if b - m > a then b - m else a := by unfold et mx; rw [if_pos hc]
   refine oB (Z.set i (.inst 0 (w0 :: .int (et a m b) :: .int e :: ws))) ?_ rfl (λ j hj => if_neg hj) (if_pos rfl)
   rw [hg]
   exact tO (dM (aB (aw rfl) h rfl rfl) (aw rfl) (oP hc)) (av (cr (bo (Z0 := Z) (vs := [.int a, .int (b - m)]) (aI (aw rfl) (aI (vj (aB (aw rfl) h rfl rfl) (aw rfl)) bZ)) rfl) (aw rfl) h rfl) cG)
  ·refine oB Z ?_ rfl (λ j hj => rfl) (by rw [rv (by lia)]; exact h)
   exact tq (dM (aB (aw rfl) h rfl rfl) (aw rfl) (qg hc)) cG
 refine ke h1 λ Z1 a1 a2 a3 a4 => ?_
 have h2 : ∃ Z2, yK (iL tr wl a m (some (.ref i))) Z1 = some ((.next, iL tr wl a m (some (.ref i))), Z2) /\ Z2.next = Z1.next /\ (∀ j, j ≠ i -> Z2.objs j = Z1.objs j) /\ Z2.objs i = .inst 0 (w0 :: .int (et a m b) :: .int (et a m e) :: ws) := by
  unfold yK iL
  by_cases hc : a < e
  ·have hg : et a m e = if e - m > a then e - m else a := by unfold et mx; rw [if_pos hc]
   refine oB (Z1.set i (.inst 0 (w0 :: .int (et a m b) :: .int (et a m e) :: ws))) ?_ rfl (λ j hj => if_neg hj) (if_pos rfl)
   rw [hg]
   exact tO (dM (aB (aw rfl) a4 rfl rfl) (aw rfl) (oP hc)) (av (cr (bo (Z0 := Z1) (vs := [.int a, .int (e - m)]) (aI (aw rfl) (aI (vj (aB (aw rfl) a4 rfl rfl) (aw rfl)) bZ)) rfl) (aw rfl) a4 rfl) cG)
  ·refine oB Z1 ?_ rfl (λ j hj => rfl) (by rw [rv (x := e) (by lia)]; exact a4)
   exact tq (dM (aB (aw rfl) a4 rfl rfl) (aw rfl) (qg hc)) cG
 refine ke h2 λ Z2 b1 b2 b3 b4 => ?_
 exact oB Z2 (av a1 (av b1 rfl)) (b2.trans a2) (λ j hj => (b3 j hj).trans (a3 j hj)) b4
theorem GO {t : T} {c m : Int} (h : t.UB) (ht : t.top = some m) (hbe : ∀ it ∈ t.inord c, it.b <= it.e) {a k : Int} (hle : m + c <= a) : (t.inord c).map (zh a k) = t.inord c := by
 rw [List.map_congr_left (g := id), List.map_id]
 intro it hit
 have h1 := wk h ht it hit
 have h2 := hbe it hit
 unfold zh
 rw [rv (by lia), rv (by exact Int.le_trans (by assumption) (by assumption))]
 rfl
end
end
section
theorem Lm.addOff {t u : T} (h : Lm t u) (k : Int) : Lm (t.addOff k) (u.addOff k) := by
 cases h with
 | E => exact .E
 | N x m h1 h2 => exact Lm.N (x := { x with off := x.off + k }) m h1 h2
theorem yd : ∀ (D : Cx) {s s' : T}, s.ptr = s'.ptr -> (D.plug s).ptr = (D.plug s').ptr := by
 intro D
 induction D with
 | top => exact λ h => h
 | L D y r ih => exact λ h => ih rfl
 | R D l y ih => exact λ h => ih rfl
section
variable {tr wl : Nat} {a m : Int}
abbrev Nd.gp (x : Nd) (a m d : Int) : Nd := { x with b := et a m (x.b + d), e := et a m (x.e + d), off := 0 }
abbrev Nd.gl (x : Nd) (a m d M : Int) : Nd := { x with b := et a m (x.b + d), e := et a m (x.e + d), lim := M + d, off := 0 }
abbrev Nd.ol (x : Nd) (c M : Int) : Nd := { x with off := x.off + c, lim := M }
noncomputable abbrev Nd.sh (x : Nd) (d : Int) : Nd := { x with b := x.b + d, e := x.e + d, off := 0 }
def HX (tr wl : Nat) (a m : Int) (t : T) (C : Cx) (c : Int) (Z : St) (ws : List PV) (o : Option PV) : Prop := ∃ Z' t2 o', GT Z' tr (C.plug t2) /\ t2.ids = t.ids /\ t2.shape = t.shape /\ t2.ptr = t.ptr /\ t2.inord 0 = (t.inord c).map (zh a m) /\ Z'.objs wl = .list ws /\ Z'.next = Z.next /\ (∀ j, j ≠ wl -> j ∉ (C.plug (t.addOff c)).ids -> Z'.objs j = Z.objs j) /\
   lA (iL tr wl a m o) Z = lA (iL tr wl a m o') Z'
def HP (tr wl : Nat) (a m : Int) (l r : T) (x : Nd) (C : Cx) (c rk : Int) (Z : St) (W : List PV) (o : Option PV) : Prop := ∃ Z6 t2l o6, GT Z6 tr (C.plug (.N t2l (x.gp a m (x.off + c)) (r.addOff rk))) /\ t2l.ids = l.ids /\ t2l.shape = l.shape /\ t2l.ptr = l.ptr /\ t2l.inord 0 = (l.inord (x.off + c)).map (zh a m) /\ Z6.objs wl = .list W /\ Z6.next = Z.next /\
      (∀ j, j ≠ wl -> j ∉ (C.plug ((T.N l x r).addOff c)).ids -> Z6.objs j = Z.objs j) /\ lA (iL tr wl a m o) Z = lA (iL tr wl a m o6) Z6
theorem Ap {l r : T} {x y : Nd} {k ra : Int} (h : (T.N l x r).UB) (h1 : y.e <= x.lim + k) (h2 : y.lim = x.lim + k) (h0 : y.off = 0) (hr : ra <= k) : (T.N (l.addOff k) y (r.addOff ra)).UB /\ ∀ M, (T.N (l.addOff k) y (r.addOff ra)).top = some M -> M = x.lim + k := by
 refine iW h λ v1 v2 v3 v4 v5 => ?_
 refine ⟨⟨by rw [h2]; exact h1, ?_, ?_, ij v4, ij v5⟩, λ M hM => ?_⟩
 ·intro j hj; rw [hZ] at hj; refine aQ (Option.map_eq_some_iff.mp hj) λ k' hk' qq2 => ?_; obtain rfl := qq2
  rw [h2]; exact Int.add_le_add_right (v2 k' hk') k
 ·intro j hj; rw [hZ] at hj; refine aQ (Option.map_eq_some_iff.mp hj) λ k' hk' qq2 => ?_; obtain rfl := qq2
  rw [h2]; exact Int.add_le_add (v3 k' hk') hr
 ·cases hM; show y.lim + y.off = _; rw [h2, h0, Int.add_zero]
theorem Dw {b : ag -> M PV} {d : ag -> M Bool} {fr : ag} {Z : St} {r : T} (ha : b fr Z = some (r.ptr, Z)) (hb : r ≠ .E -> d fr Z = some (false, Z)) : c9 (aY b (az bR bq)) d fr Z = some (false, Z) := by
 cases r with
 | E => exact zz (dM ha eH rfl)
 | N l x r => exact uJ (dM ha eH rfl) (hb λ h => T.noConfusion h)
theorem T.ne_E {r : T} (h : r ≠ .E) : ∃ l x r', r = .N l x r' := by
 cases r with
 | E => exact absurd rfl h
 | N l x r => exact GE l x r rfl
theorem DL (hm : 0 < m) : ∀ (t : T) (C : Cx) (c : Int) (Z : St) (ws : List PV) (o : Option PV), GT Z tr (C.plug (t.addOff c)) -> (C.plug (t.addOff c)).nodes.length <= 100 -> jA (t.inord c) -> (∀ it ∈ t.inord c, it.b <= it.e) ->
  Z.objs wl = .list (ws ++ [t.ptr]) -> ws.length + t.nodes.length <= 900 -> wl ∉ tr :: (C.plug (t.addOff c)).ids -> wl < Z.next ->
  HX tr wl a m t C c Z ws o := by
 intro t
 induction t with
 | E =>
  intro C c Z ws o hg hz hso hbe hw hz2 hni hlt
  refine cj hg λ u g1 g2 g3 => ?_
  have hkeep := g1.keep
  refine uU (Z.set wl (.list ws)) .E (some .none) ⟨u, g1, g2, ?_, ?_, g3.nodup, g3.lt⟩ rfl rfl rfl rfl (if_pos rfl) rfl (λ j hj _ => if_neg hj) (zA hw rfl)
  ·obtain ⟨cnt, hc⟩ := g3.root
   exact uN cnt ((if_neg (λ q => hni (by rw [<- q]; exact List.mem_cons_self ..))).trans hc)
  ·exact Sub.of (λ j hj => if_neg (λ q => hni (by rw [<- q, <- hkeep.1]; exact List.mem_cons_of_mem _ hj))) g3.sub
 | N l x r ihl ihr =>
  intro C c Z ws o hg hz hso hbe hw hz2 hni hlt
  refine cj hg λ u g1 g2 g3 => ?_
  refine gX (vM C g1) λ C' t' qq1 q1 q2 => ?_; obtain rfl := qq1
  have hPids : ∀ s s' : T, s.ids = s'.ids -> (C.plug s).ids = (C.plug s').ids := λ s s' e => by
   refine fj (iK C s) λ A B h => ?_
   rw [h, h, e]
  have hPidsL : ∀ D D' : Cx, CU D D' -> ∀ s s' : T, Lm s s' -> (D'.plug s').ids = (D.plug s).ids := λ D D' hD s s' hs => (hD.plug hs).keep.1
  refine Aa (Lm.nI (show Lm (.N l { x with off := x.off + c } r) t' from q2)) λ l' r' M qq ql qr => ?_; obtain rfl := qq
  have kl := ql.keep
  have kr := qr.keep
  have hidsT : (T.N l' (x.ol c M) r').ids = (T.N l x r).ids := by rw [bJ, bJ, kl.1, kr.1]
  have hPid : (C'.plug (.N l' (x.ol c M) r')).ids = (C.plug ((T.N l x r).addOff c)).ids := (hPidsL C C' q1 _ _ q2)
  have hnodup := (List.nodup_cons.mp g3.nodup).2
  have htr := (List.nodup_cons.mp g3.nodup).1
  have hwlP : wl ∉ (C'.plug (.N l' (x.ol c M) r')).ids := by rw [hPid]; exact λ q => hni (List.mem_cons_of_mem _ q)
  have hwltr : wl ≠ tr := λ q => hni (by rw [q]; exact List.mem_cons_self ..)
  generalize hσ0 : Z.set wl (.list ws) = Z0
  have o0 : ∀ j, j ≠ wl -> Z0.objs j = Z.objs j := λ j hj => by rw [<- hσ0]; exact if_neg hj
  have w0 : Z0.objs wl = .list ws := by rw [<- hσ0]; exact if_pos rfl
  have n0 : Z0.next = Z.next := by rw [<- hσ0]; rfl
  have s0 : Sub Z0 .none (C'.plug (.N l' (x.ol c M) r')) := Sub.of (λ j hj => o0 j (λ q => hwlP (q ▸ hj))) g3.sub
  have hnT := kV (C := C') (t := .N l' (x.ol c M) r') hnodup
  refine ke (wr (jf (Z' := Z0) C' s0 hnodup).1 hnT.1) λ Z1 e1 e2 e3 e4 => ?_
  have s1 : Sub Z1 .none (C'.plug (.N (l'.addOff (x.off + c)) (Nd.down (x.ol c M)) (r'.addOff (x.off + c)))) := (jf (Z' := Z1) C' s0 hnodup).2 _ e3 rfl λ j _ hj => e4 j hj
  have hu0 := q6 C' g2
  have u1 : (C'.plug (.N (l'.addOff (x.off + c)) (Nd.down (x.ol c M)) (r'.addOff (x.off + c)))).UB := by
   have v := Ap (y := Nd.down (x.ol c M)) (k := x.off + c) (ra := x.off + c) hu0.1 (Int.add_le_add_right (iW hu0.1 λ v1 _ _ _ _ => v1) _) rfl rfl (Int.le_refl _)
   exact hu0.2 _ v.1 λ k hk => cC (M + (x.off + c)) rfl (Int.le_of_eq (v.2 k hk))
  have x1 : Z1.objs x.id = .inst 0 [x.num, .int (x.b + (x.off + c)), .int (x.e + (x.off + c)), x.fa, x.ra, .int (M + (x.off + c)), .int 0, .bool x.red, l.ptr, r.ptr, C.par] := by
   have := e3.1
   rw [c8, c8, kl.2.1, kr.2.1, q1.par] at this
   exact this
  have w1 : Z1.objs wl = .list ws := by rw [e4 wl (λ q => hwlP (hnT.2 _ q))]; exact w0
  have hnode : ∀ (v : PV) (Z' : St), yL (iL tr wl a m (some (.ref x.id))) Z1 = some ((.next, iL tr wl a m (some (.ref x.id))), Z') -> lA (iL tr wl a m o) Z = lA (iL tr wl a m (some (.ref x.id))) Z' := by
   intro v Z' h
   refine zA hw ?_
   rw [hσ0]
   have : vI (iL tr wl a m (some (.ref x.id))) Z0 = ai (bi (ap bO (ac (ab 4) aj))) (ai yL aA) (iL tr wl a m (some (.ref x.id))) Z0 := rfl
   show vI (iL tr wl a m (some (.ref x.id))) Z0 = _
   rw [this]
   exact av (cv (vs := [.ref x.id]) (Z0 := Z0) rfl e1) (av h rfl)
  have htest : aY (ak a9 (ab 4)) (az tD (ab 1)) (iL tr wl a m (some (.ref x.id))) Z1 = some (decide (a < M + (x.off + c)), Z1) := by
   unfold iL
   exact dM (aB (aw rfl) x1 rfl rfl) (aw rfl) rfl
  have old1 : ∀ j, j ≠ wl -> j ∉ (C.plug ((T.N l x r).addOff c)).ids -> Z1.objs j = Z.objs j := λ j h1 h2 => by
   rw [e4 j (λ q => h2 (by rw [<- hPid]; exact hnT.2 _ q)), o0 j h1]
  have hinl : ∀ d, l'.inord d = l.inord d := kl.2.2.2
  have hinr : ∀ d, r'.inord d = r.inord d := kr.2.2.2
  have ec : c + x.off = x.off + c := by lia
  have hin : (T.N l x r).inord c = l.inord (x.off + c) ++ ⟨x.id, x.num, x.b + (x.off + c), x.e + (x.off + c)⟩ :: r.inord (x.off + c) := by
   show l.inord (c + x.off) ++ ⟨x.id, x.num, x.b + (c + x.off), x.e + (c + x.off)⟩ :: r.inord (c + x.off) = _
   rw [ec]
  by_cases hlim : a < M + (x.off + c)
  ·have hin2 : yL (iL tr wl a m (some (.ref x.id))) Z1 = ai Hm (ai G0 (ai zn (ai yK (ai FD aA)))) (iL tr wl a m (some (.ref x.id))) Z1 := by
    unfold yL cX
    rw [htest, show decide (a < M + (x.off + c)) = true from decide_eq_true hlim]
    rfl
   rw [hin] at hso hbe
   have hp := List.pairwise_append.mp hso
   have hp2 := List.pairwise_cons.mp hp.2.1
   have hnT' := hnT.1
   rw [hidsT, bJ] at hnT'
   have hd := List.nodup_append.mp hnT'
   have hd2 := List.nodup_cons.mp hd.2.1
   have hxP : x.id ∈ (C.plug ((T.N l x r).addOff c)).ids := by rw [<- hPid]; exact hnT.2 _ (by rw [hidsT, bJ]; simp)
   have hxwl : x.id ≠ wl := λ q => hni (List.mem_cons_of_mem _ (q ▸ hxP))
   have hnl : (T.N l x r).nodes.length = l.nodes.length + 1 + r.nodes.length := by show (l.nodes ++ x :: r.nodes).length = _; rw [List.length_append, List.length_cons]; lia
   rw [hnl] at hz2
   have hbeL : ∀ it ∈ l.inord (x.off + c), it.b <= it.e := λ it h => hbe it (List.mem_append_left _ h)
   have hbeR : ∀ it ∈ r.inord (x.off + c), it.b <= it.e := λ it h => hbe it (List.mem_append_right _ (List.mem_cons_of_mem _ h))
   have hbeX : x.b + (x.off + c) <= x.e + (x.off + c) := hbe _ (List.mem_append_right _ (List.mem_cons_self ..))
   have fin : ∀ (rk : Int) (W : List PV) (Z2 : St), rk <= x.off + c -> (ai Hm (ai G0 (ai zn (ai yK (ai FD aA)))) (iL tr wl a m (some (.ref x.id))) Z1 = ai G0 (ai zn (ai yK (ai FD aA))) (iL tr wl a m (some (.ref x.id))) Z2) -> Z2.next = Z1.next -> Z2.objs x.id = Z1.objs x.id -> Z2.objs wl = .list W -> W.length <= ws.length + 1 ->
     Sub Z2 (.ref x.id) (r'.addOff rk) -> (∀ j, j ≠ wl -> j ∉ r.ids -> Z2.objs j = Z1.objs j) ->
     HP tr wl a m l r x C c rk Z W o := by
    intro rk W Z2 hrk hA hn2 hx2 hw2 hWlen hsr hold2
    have x2 := hx2.trans x1
    have hB : G0 (iL tr wl a m (some (.ref x.id))) Z2 = some ((.next, iL tr wl a m (some (.ref x.id))), Z2.set wl (.list (W ++ [l.ptr]))) := by
     refine qw (a := 3) rfl ?_ hw2 (by lia)
     unfold iL
     exact aB (aw rfl) x2 rfl rfl
    generalize hσ3 : Z2.set wl (.list (W ++ [l.ptr])) = Z3 at hB
    have o3 : ∀ j, j ≠ wl -> Z3.objs j = Z2.objs j := λ j hj => by rw [<- hσ3]; exact if_neg hj
    have w3 : Z3.objs wl = .list (W ++ [l.ptr]) := by rw [<- hσ3]; exact if_pos rfl
    have n3 : Z3.next = Z2.next := by rw [<- hσ3]; rfl
    refine ke (DD (tr := tr) (wl := wl) (a := a) (m := m) ((o3 x.id hxwl).trans x2)) λ Z4 c1 c2 c3 c4 => ?_
    have sx4 : Sub Z4 C'.par (.N (l'.addOff (x.off + c)) (x.gl a m (x.off + c) M) (r'.addOff rk)) := by
     refine ⟨?_, Sub.of (λ j hj => ?_) e3.2.1, Sub.of (λ j hj => ?_) hsr⟩
     ·rw [c8, c8, kl.2.1, kr.2.1, q1.par]; exact c4
     ·rw [bD, kl.1] at hj
      have h1 : j ≠ x.id := λ q => hd.2.2 _ hj _ (List.mem_cons_self ..) q
      have h2 : j ≠ wl := λ q => hni (List.mem_cons_of_mem _ (by rw [<- hPid]; exact hnT.2 _ (by rw [hidsT, bJ, <- q]; exact List.mem_append_left _ hj)))
      rw [c3 j h1, o3 j h2, hold2 j h2 (λ q => hd.2.2 _ hj _ (List.mem_cons_of_mem _ q) rfl)]
     ·rw [bD, kr.1] at hj
      have h1 : j ≠ x.id := λ q => hd2.1 (q ▸ hj)
      have h2 : j ≠ wl := λ q => hni (List.mem_cons_of_mem _ (by rw [<- hPid]; exact hnT.2 _ (by rw [hidsT, bJ, <- q]; exact List.mem_append_right _ (List.mem_cons_of_mem _ hj))))
      rw [c3 j h1, o3 j h2]
    have hkid : ∀ (y : Nd) (ra : Int), y.id = x.id -> (T.N (l'.addOff (x.off + c)) y (r'.addOff ra)).ids = (T.N l x r).ids := λ y ra hy => by rw [bJ, bJ, bD, bD, kl.1, kr.1, hy]
    have hP1 : (C'.plug (.N (l'.addOff (x.off + c)) (Nd.down (x.ol c M)) (r'.addOff (x.off + c)))).ids.Nodup := by
     refine fj (iK C' .E) λ A B h => ?_
     rw [h, hkid (Nd.down (x.ol c M)) (x.off + c) rfl]
     rw [h, hidsT] at hnodup
     exact hnodup
    have s4 : Sub Z4 .none (C'.plug (.N (l'.addOff (x.off + c)) (x.gl a m (x.off + c) M) (r'.addOff rk))) := by
     refine (jf (Z' := Z4) C' s1 hP1).2 _ sx4 rfl λ j h1 h2 => ?_
     rw [hkid (Nd.down (x.ol c M)) (x.off + c) rfl, bJ] at h2
     simp only [List.mem_append, List.mem_cons, not_or] at h2
     have hj : j ≠ wl := λ q => hwlP (by
      refine fj (iK C' .E) λ A B h => ?_
      rw [h, hkid (Nd.down (x.ol c M)) (x.off + c) rfl] at h1
      rw [h, hidsT, <- q]; exact h1)
     rw [c3 j h2.2.1, o3 j hj, hold2 j hj h2.2.2]
    have u4 : (C'.plug (.N (l'.addOff (x.off + c)) (x.gl a m (x.off + c) M) (r'.addOff rk))).UB := by
     have v := Ap (y := x.gl a m (x.off + c) M) (k := x.off + c) (ra := rk) hu0.1 (Int.le_trans (Fe hm) (Int.add_le_add_right (iW hu0.1 λ v1 _ _ _ _ => v1) _)) rfl rfl hrk
     exact hu0.2 _ v.1 λ k hk => cC (M + (x.off + c)) rfl (Int.le_of_eq (v.2 k hk))
    have hP4 : (C'.plug (.N (l'.addOff (x.off + c)) (x.gl a m (x.off + c) M) (r'.addOff rk))).ids = (C.plug ((T.N l x r).addOff c)).ids := by
     rw [<- hPid]
     refine fj (iK C' .E) λ A B h => ?_
     rw [h, h, hkid (x.gl a m (x.off + c) M) rk rfl, hidsT]
    refine Es (Do s4 (by rw [hP4, <- hPid]; exact hnodup) u4) λ Z5 T5 r1 r2 r3 r4 r5 r6 => ?_
    have hD : ai FD aA (iL tr wl a m (some (.ref x.id))) Z4 = some ((.next, iL tr wl a m (some (.ref x.id))), Z5) := av (cv (vs := [.ref x.id]) (Z0 := Z4) rfl r1) rfl
    have hrun := hnode .none Z5 (by rw [hin2, hA]; exact av hB (c1.trans hD))
    rw [hP4] at r6
    have w5 : Z5.objs wl = .list (W ++ [l.ptr]) := by rw [r6 wl (λ q => hni (List.mem_cons_of_mem _ q)), c3 wl (Ne.symm hxwl)]; exact w3
    have n5 : Z5.next = Z.next := by rw [r2, c2, n3, hn2, e2, n0]
    have old5 : ∀ j, j ≠ wl -> j ∉ (C.plug ((T.N l x r).addOff c)).ids -> Z5.objs j = Z.objs j := λ j h1 h2 => by
     rw [r6 j h2, c3 j (λ q => h2 (q ▸ hxP)), o3 j h1, hold2 j h1 (λ q => h2 (by rw [<- hPid]; exact hnT.2 _ (by rw [hidsT, bJ]; exact List.mem_append_right _ (List.mem_cons_of_mem _ q)))), old1 j h1 h2]
    have hLm5 : Lm (C.plug (.N (l.addOff (x.off + c)) (x.gp a m (x.off + c)) (r.addOff rk))) T5 := by
     refine Lm.trans (q1.plug ?_) r4
     exact Lm.N (x := (x.gp a m (x.off + c))) (M + (x.off + c)) (ql.addOff _) (qr.addOff _)
    have hPL : ((Cx.L C (x.gp a m (x.off + c)) (r.addOff rk)).plug (l.addOff (x.off + c))).ids = (C.plug ((T.N l x r).addOff c)).ids := by
     show (C.plug (.N _ _ _)).ids = _
     refine hPids _ _ ?_
     rw [bJ, bD, bD]
     show _ = (T.N l { x with off := x.off + c } r).ids
     rw [bJ]
    have hg5 : GT Z5 tr ((Cx.L C (x.gp a m (x.off + c)) (r.addOff rk)).plug (l.addOff (x.off + c))) := by
     refine fk T5 hLm5 r5 ⟨?_, r3, ?_, ?_⟩
     ·refine br g3.root λ cnt hc => ?_
      refine uN cnt ?_
      rw [old5 tr (Ne.symm hwltr) (by rw [<- hPid]; exact htr), hc, ((q1.plug q2).keep.2.1.trans (yd C (s := (T.N l x r).addOff c) (s' := .N (l.addOff (x.off + c)) (x.gp a m (x.off + c)) (r.addOff rk)) rfl)).trans hLm5.keep.2.1.symm]
     ·rw [hLm5.keep.1]
      have : (C.plug (.N (l.addOff (x.off + c)) (x.gp a m (x.off + c)) (r.addOff rk))).ids = (C.plug ((T.N l x r).addOff c)).ids := hPL
      rw [this, <- hPid]; exact g3.nodup
     ·intro j hj
      rw [hLm5.keep.1] at hj
      have : (C.plug (.N (l.addOff (x.off + c)) (x.gp a m (x.off + c)) (r.addOff rk))).ids = (C.plug ((T.N l x r).addOff c)).ids := hPL
      rw [this, <- hPid] at hj
      rw [n5]; exact g3.lt j hj
    have hzL : ((Cx.L C (x.gp a m (x.off + c)) (r.addOff rk)).plug (l.addOff (x.off + c))).nodes.length <= 100 := by
     have h1 := congrArg List.length hPL
     simp only [T.ids, List.length_map] at h1
     lia
    refine ng (ihl (.L C (x.gp a m (x.off + c)) (r.addOff rk)) (x.off + c) Z5 W (some (.ref x.id)) hg5 hzL hp.1 hbeL w5 (by lia) (by rw [hPL]; exact hni) (by rw [n5]; exact hlt)) λ Z6 t2l o6 f1 f2 f3 f4 f5 f6 f7 f8 f9 => ?_
    rw [hPL] at f8
    exact uU Z6 t2l o6 f1 f2 f3 f4 f5 f6 (by rw [f7, n5]) (λ j h1 h2 => by rw [f8 j h1 h2, old5 j h1 h2]) (hrun.trans f9)
   have hsrE : Sub Z1 (.ref x.id) (r'.addOff (x.off + c)) := e3.2.2
   by_cases hcase : r ≠ .E /\ a + m < x.b + (x.off + c)
   ·-- the right tree slides as a whole
    refine Af (T.ne_E hcase.1) λ rl z rr hr => ?_
    refine Aa (Lm.nI (hr ▸ qr)) λ rl' rr' Mz hr' qrl qrr => ?_
    have hbig := hcase.2
    have hzr : z.id ∈ r.ids := by rw [hr, bJ]; exact List.mem_append_right _ (List.mem_cons_self ..)
    have hp : r.ptr = .ref z.id := by rw [hr]; rfl
    rw [hr'] at hsrE
    have z1 : Z1.objs z.id = .inst 0 [z.num, .int z.b, .int z.e, z.fa, z.ra, .int Mz, .int (z.off + (x.off + c)), .bool z.red, rl'.ptr, rr'.ptr, .ref x.id] := hsrE.1
    have hzx : z.id ≠ x.id := λ q => hd2.1 (q ▸ hzr)
    have hxz := Ne.symm hzx
    have hzwl : z.id ≠ wl := λ q => hni (List.mem_cons_of_mem _ (by rw [<- hPid]; exact hnT.2 _ (by rw [hidsT, bJ, <- q]; exact List.mem_append_right _ (List.mem_cons_of_mem _ hzr))))
    have hA : Hm (iL tr wl a m (some (.ref x.id))) Z1 = some ((.next, iL tr wl a m (some (.ref x.id))), Z1.set z.id (.inst 0 [z.num, .int z.b, .int z.e, z.fa, z.ra, .int Mz, .int (z.off + (x.off + c) - m), .bool z.red, rl'.ptr, rr'.ptr, .ref x.id])) := by
     unfold iL
     exact tO (uJ (dM (aB (aw rfl) x1 rfl (congrArg some hp)) eH rfl) (uJ (dM (aB (aw rfl) x1 rfl rfl) (jK (aw rfl) (aw rfl)) (oP hbig)) ym)) (av (cr (vj (aB (aB (aw rfl) x1 rfl (congrArg some hp)) z1 rfl rfl) (aw rfl)) (aB (aw rfl) x1 rfl (congrArg some hp)) z1 rfl) cG)
    refine ng (fin (x.off + c - m) ws _ (by lia) (av hA rfl) rfl (if_neg hxz) ((if_neg (Ne.symm hzwl)).trans w1) (Nat.le_succ _) (by
      have hnr : (T.N rl' { z with lim := Mz } rr').ids.Nodup := by rw [<- hr', qr.keep.1]; exact hd2.2
      rw [bJ] at hnr
      have hdr := List.nodup_append.mp hnr
      have hdr2 := List.nodup_cons.mp hdr.2.1
      rw [hr']
      refine bN hsrE λ _ k2 k3 => ?_
      refine ⟨(if_pos rfl).trans ?_, Sub.of (λ j hj => if_neg (λ q => hdr.2.2 _ hj _ (List.mem_cons_self ..) q)) k2, Sub.of (λ j hj => if_neg (λ q : j = z.id => hdr2.1 (by show z.id ∈ _; rw [<- q]; exact hj))) k3⟩
      show _ = ee.inst 0 [z.num, .int z.b, .int z.e, z.fa, z.ra, .int Mz, .int (z.off + (x.off + c - m)), .bool z.red, rl'.ptr, rr'.ptr, .ref x.id]
      rw [Int.add_sub_assoc]) (λ j h1 h2 => if_neg (λ q : j = z.id => h2 (by rw [q]; exact hzr)))) λ Z6 t2l o6 f1 f2 f3 f4 f5 f6 f7 f8 f9 => ?_
    refine uU Z6 (.N t2l (x.gp a m (x.off + c)) (r.addOff (x.off + c - m))) o6 f1 (by rw [bJ, bJ, f2, bD]) (by show Sh.N _ _ _ = Sh.N _ _ _; rw [f3, eo]) rfl ?_ f6 f7 f8 f9
    rw [hin, List.map_append, List.map_cons]
    show t2l.inord (0 + 0) ++ ⟨x.id, x.num, et a m (x.b + (x.off + c)) + (0 + 0), et a m (x.e + (x.off + c)) + (0 + 0)⟩ :: (r.addOff (x.off + c - m)).inord (0 + 0) = _
    rw [show (0 : Int) + 0 = 0 by rfl, Int.add_zero, Int.add_zero, f5, fQ, Int.zero_add, show x.off + c - m = x.off + c + (-m) by lia, mt (-m)]
    congr 2
    refine List.map_congr_left λ it hit => ?_
    have h1 : x.b + (x.off + c) <= it.b := hp2.1 it hit
    have h2 := hbeR it hit
    unfold Hw zh
    rw [C0 hm (by lia), C0 hm (by lia)]
    rfl
   ·have hA : Hm (iL tr wl a m (some (.ref x.id))) Z1 = some ((.next, iL tr wl a m (some (.ref x.id))), Z1.set wl (.list (ws ++ [r.ptr]))) := by
     have hap : bi (ds mi dv (ab 3) (ak aH (ab 4))) (iL tr wl a m (some (.ref x.id))) Z1 = some ((.next, iL tr wl a m (some (.ref x.id))), Z1.set wl (.list (ws ++ [r.ptr]))) := by
      refine qw (a := 3) rfl ?_ w1 (by lia)
      unfold iL
      exact aB (aw rfl) x1 rfl rfl
     exact tq (Dw (aB (aw rfl) x1 rfl rfl) λ hne => zz (dM (aB (aw rfl) x1 rfl rfl) (jK (aw rfl) (aw rfl)) (qg λ q => hcase ⟨hne, q⟩))) (av hap rfl)
    have hxw' : (Z1.set wl (.list (ws ++ [r.ptr]))).objs x.id = Z1.objs x.id := if_neg hxwl
    refine ng (fin (x.off + c) (ws ++ [r.ptr]) _ (Int.le_refl _) (av hA rfl) rfl hxw' (if_pos rfl) (by simp) (Sub.of (λ j hj => by
      rw [bD, kr.1] at hj
      exact if_neg (λ q => hni (List.mem_cons_of_mem _ (by rw [<- hPid]; exact hnT.2 _ (by rw [hidsT, bJ, <- q]; exact List.mem_append_right _ (List.mem_cons_of_mem _ hj)))))) hsrE) (λ j h1 h2 => if_neg h1)) λ Z6 t2l o6 f1 f2 f3 f4 f5 f6 f7 f8 f9 => ?_
    have hPR : ((Cx.R C t2l (x.gp a m (x.off + c))).plug (r.addOff (x.off + c))).ids = (C.plug ((T.N l x r).addOff c)).ids := by
     show (C.plug (.N _ _ _)).ids = _
     refine hPids _ _ ?_
     rw [bJ, bD, f2]
     show _ = (T.N l { x with off := x.off + c } r).ids
     rw [bJ]
    have hzR : ((Cx.R C t2l (x.gp a m (x.off + c))).plug (r.addOff (x.off + c))).nodes.length <= 100 := by
     have h1 := congrArg List.length hPR
     simp only [T.ids, List.length_map] at h1
     lia
    refine ng (ihr (.R C t2l (x.gp a m (x.off + c))) (x.off + c) Z6 ws o6 f1 hzR hp2.2 hbeR f6 (by lia) (by rw [hPR]; exact hni) (by rw [f7]; exact hlt)) λ Z7 t2r o7 d1 d2 d3 d4 d5 d6 d7 d8 d9 => ?_
    rw [hPR] at d8
    refine uU Z7 (.N t2l (x.gp a m (x.off + c)) t2r) o7 d1 (by rw [bJ, bJ, f2, d2]) (by show Sh.N _ _ _ = Sh.N _ _ _; rw [f3, d3]) rfl ?_ d6 (by rw [d7, f7]) (λ j h1 h2 => by rw [d8 j h1 h2, f8 j h1 h2]) (f9.trans d9)
    rw [hin, List.map_append, List.map_cons]
    show t2l.inord (0 + 0) ++ ⟨x.id, x.num, et a m (x.b + (x.off + c)) + (0 + 0), et a m (x.e + (x.off + c)) + (0 + 0)⟩ :: t2r.inord (0 + 0) = _
    rw [show (0 : Int) + 0 = 0 by rfl, Int.add_zero, Int.add_zero, f5, d5]
    rfl
  ·-- nothing reaches past the place
   have hin2 : yL (iL tr wl a m (some (.ref x.id))) Z1 = some ((.next, iL tr wl a m (some (.ref x.id))), Z1) := by
    unfold yL cX
    rw [htest, show decide (a < M + (x.off + c)) = false from decide_eq_false hlim]
    rfl
   have hord : (T.N (l.addOff (x.off + c)) (x.sh (x.off + c)) (r.addOff (x.off + c))).inord 0 = (T.N l x r).inord c := by
    rw [hin]
    show (l.addOff _).inord (0 + 0) ++ ⟨x.id, x.num, x.b + (x.off + c) + (0 + 0), x.e + (x.off + c) + (0 + 0)⟩ :: (r.addOff _).inord (0 + 0) = _
    rw [show (0 : Int) + 0 = 0 by rfl, Int.add_zero, Int.add_zero, fQ, fQ, Int.zero_add]
   have hLm : Lm (C.plug (.N (l.addOff (x.off + c)) (x.sh (x.off + c)) (r.addOff (x.off + c)))) (C'.plug (.N (l'.addOff (x.off + c)) (Nd.down (x.ol c M)) (r'.addOff (x.off + c)))) :=
    q1.plug (Lm.N (x := (x.sh (x.off + c))) (M + (x.off + c)) (ql.addOff _) (qr.addOff _))
   have hP1 : (C'.plug (.N (l'.addOff (x.off + c)) (Nd.down (x.ol c M)) (r'.addOff (x.off + c)))).ids = (C'.plug (.N l' (x.ol c M) r')).ids := by
    refine fj (iK C' .E) λ A B h => ?_
    rw [h, h, bJ, bJ, bD, bD]; rfl
   refine uU Z1 (.N (l.addOff (x.off + c)) (x.sh (x.off + c)) (r.addOff (x.off + c))) (some (.ref x.id)) ⟨_, hLm, u1, ⟨?_, s1, by rw [hP1]; exact g3.nodup, λ j hj => ?_⟩⟩ (by rw [bJ, bJ, bD, bD]) (by show Sh.N _ _ _ = Sh.N _ _ _; rw [eo, eo]) rfl ?_ w1 (by rw [e2, n0]) old1 (hnode .none Z1 hin2)
   ·refine br g3.root λ cnt hc => ?_
    refine uN cnt ?_
    rw [old1 tr (Ne.symm hwltr) (by rw [<- hPid]; exact htr), hc]
    exact congrArg (λ p => ee.inst 1 [p, PV.int cnt]) (yd C' rfl)
   ·rw [hP1] at hj
    rw [e2, n0]; exact g3.lt j hj
   ·rw [hord]
    symm
    have hub' : (T.N l' (x.ol c M) r').UB := hu0.1
    have := GO (c := 0) (k := m) (a := a) hub' rfl (λ it hit => ?_) (by show M + (x.off + c) + 0 <= a; lia)
    ·have e0 : (T.N l' (x.ol c M) r').inord 0 = (T.N l x r).inord c := by
      show l'.inord (0 + (x.off + c)) ++ ⟨x.id, x.num, x.b + (0 + (x.off + c)), x.e + (0 + (x.off + c))⟩ :: r'.inord (0 + (x.off + c)) = _
      rw [Int.zero_add, hinl, hinr, hin]
     rw [e0] at this
     exact this
    ·refine hbe it ?_
     have e0 : (T.N l' (x.ol c M) r').inord 0 = (T.N l x r).inord c := by
      show l'.inord (0 + (x.off + c)) ++ ⟨x.id, x.num, x.b + (0 + (x.off + c)), x.e + (0 + (x.off + c))⟩ :: r'.inord (0 + (x.off + c)) = _
      rw [Int.zero_add, hinl, hinr, hin]
     rw [e0] at hit
     exact hit
end
end
theorem qb (t : T) : t.addOff 0 = t := by
 cases t with
 | E => rfl
 | N l x r => show T.N l { x with off := x.off + 0 } r = _; rw [Int.add_zero]
theorem El {Z : St} {tr : Nat} {t : T} {a m : Int} (h : jX Z tr t) (hub : t.UB) (hs : t.shape ∈ LS) (hso : jA (t.inord 0)) (hbe : ∀ it ∈ t.inord 0, it.b <= it.e) (hm : 0 < m) :
  ∃ Z' t', iM [.ref tr, .int a, .int m] Z = some (.none, Z') /\ jX Z' tr t' /\ t'.shape ∈ LS /\ t'.inord 0 = (t.inord 0).map (zh a m) /\ t'.UB /\ xU Z t.ids Z' := by
 refine br h.root λ cnt hc => ?_
 have htlt : tr < Z.next := h.lt _ (List.mem_cons_self ..)
 have hilt : ∀ a ∈ t.ids, a < Z.next := λ a ha => h.lt a (List.mem_cons_of_mem _ ha)
 have hsz : t.nodes.length <= 6 := by rw [<- T.shape_size]; exact wm hs
 generalize hσ1 : Z.push (.list [t.ptr]) = Z1
 have n1 : Z1.next = Z.next + 1 := by rw [<- hσ1]; rfl
 have o1 : ∀ a, a < Z.next -> Z1.objs a = Z.objs a := λ a ha => by rw [<- hσ1]; exact if_neg (by lia)
 have w1 : Z1.objs Z.next = .list ([] ++ [t.ptr]) := by rw [<- hσ1]; exact if_pos rfl
 have hg : GT Z1 tr (Cx.top.plug (t.addOff 0)) := by
  rw [qb]
  exact fk t (Lm.refl t) hub ⟨⟨cnt, (o1 tr htlt).trans hc⟩, Sub.of (λ a ha => o1 a (hilt a ha)) h.sub, h.nodup, λ a ha => by rw [n1]; have := h.lt a ha; lia⟩
 have hids : (Cx.top.plug (t.addOff 0)).ids = t.ids := bD 0 t
 refine ng (DL (tr := tr) (wl := Z.next) (a := a) (m := m) hm t .top 0 Z1 [] none hg (by rw [qb]; show t.nodes.length <= 100; lia) hso hbe w1 (by simp; lia) (by rw [hids]; intro q; have := h.lt _ q; lia) (by rw [n1]; lia)) λ Z' t2 o' g1 g2 g3 g4 g5 g6 g7 g8 g9 => ?_
 refine cj g1 λ u k1 k2 k3 => ?_
 have kk := k1.keep
 rw [hids] at g8
 have hend : lA (iL tr Z.next a m o') Z' = some ((.next, iL tr Z.next a m o'), Z') := by
  unfold lA
  rw [kp]
  have hcnd : rD (iL tr Z.next a m o') Z' = some (false, Z') := by
   unfold rD
   rw [mq (a := 3) (fr := iL tr Z.next a m o') rfl g6]
   rfl
  rw [hcnd]
  rfl
 refine G6 Z' u ?_ k3 (by rw [kk.2.2.1]; show t2.shape ∈ LS; rw [g3]; exact hs) (by rw [kk.2.2.2]; exact g5) k2 ⟨by rw [g7, n1]; lia, λ j h1 h2 => by rw [g8 j (by lia) h2, o1 j h1]⟩
 unfold iM bg
 rw [if_pos (show [PV.ref tr, PV.int a, PV.int m].length = 3 from rfl)]
 show cb (jM [some (.ref tr), some (.int a), some (.int m), none, none] Z) _ = _
 rw [Cy]
 have h1 : (cX (aY (ab 2) (az oZ (aS 0))) (ai jl aA) aA) [some (.ref tr), some (.int a), some (.int m), none, none] Z = some ((.next, [some (.ref tr), some (.int a), some (.int m), none, none]), Z) := by
  have : ¬ m <= 0 := by lia
  simp only [ai, jl, ab, ei, cX, aY, az, rO, oZ, aA, aS, List.getElem?_cons_zero, List.getElem?_cons_succ, Bool.false_eq_true, ↓reduceIte, decide_false, this]
 have h2 : aF 3 (cQ (ac (ak bL (ab 0)) aj)) [some (.ref tr), some (.int a), some (.int m), none, none] Z = some ((.next, iL tr Z.next a m none), Z1) := by
  simp only [aF, ak, ab, ei, cQ, nP, ac, aj, dU, bL, List.lookup, List.length, List.getElem?_cons_zero, beq_self_eq_true, List.set, Option.some.injEq, Prod.mk.injEq, true_and, ↓reduceIte, Nat.reduceAdd, Nat.reduceLeDiff, hc]
  exact ⟨rfl, hσ1⟩
 rw [av h1 (aD h2 (aD (g9.trans hend) rfl))]
 rfl
def Bc (f : Bool) : List PV := if f then [.tup [.int 103, .bool true]] else []
theorem rz {Z : St} {pl : Nat} {k : Int} (h : Z.objs pl = .list []) : cP [.ref pl, .int k] Z = some (.int (-1), Z) := by
 have hr : ap fG (ac (ap fM (ac (ab 0) aj)) aj) [some (.ref pl), some (.int k), none] Z = some (.rng 0 ((([] : List PV).length : Nat) : Int), Z) := by
  simp only [ab, ei, ap, ac, aj, List.length, List.getElem?_cons_zero, fM, h, fG, Cf, yG, zG]
 have hf : ∀ b, eX 2 (ap fG (ac (ap fM (ac (ab 0) aj)) aj)) b [some (.ref pl), some (.int k), none] Z = some ((.next, [some (.ref pl), some (.int k), none]), Z) := by
  intro b
  unfold eX
  rw [hr]
  rfl
 unfold cP bg
 show cb (fK [some (.ref pl), some (.int k), none] Z) _ = _
 unfold fK
 rw [av (hf _) (bv (v := .int (-1)) (fr1 := [some (.ref pl), some (.int k), none]) (Z1 := Z) rfl)]
 rfl
theorem Cp {Z : St} {pl : Nat} {k n : Int} {v : PV} (h : Z.objs pl = .list [.tup [.int n, v]]) : cP [.ref pl, .int k] Z = some (.int (if n = k then 0 else -1), Z) := by
 have hr : ap fG (ac (ap fM (ac (ab 0) aj)) aj) [some (.ref pl), some (.int k), none] Z = some (.rng 0 ((([PV.tup [.int n, v]] : List PV).length : Nat) : Int), Z) := by
  simp only [ab, ei, ap, ac, aj, List.length, List.getElem?_cons_zero, Nat.reduceAdd, fM, h, fG, Cf, yG, zG]
 have ht : aY (bp (bp (ab 0) (ab 2)) (aS 0)) (az fq (ab 1)) [some (.ref pl), some (.int k), some (.int 0)] Z = some (n == k, Z) := by
  simp only [ab, ei, aY, az, aS, List.getElem?_cons_zero, List.getElem?_cons_succ, bp, kT, h, fq]
  rfl
 unfold cP bg
 show cb (fK [some (.ref pl), some (.int k), none] Z) _ = _
 unfold fK
 by_cases hc : n = k
 ·have hf : eX 2 (ap fG (ac (ap fM (ac (ab 0) aj)) aj)) (ai (cX (aY (bp (bp (ab 0) (ab 2)) (aS 0)) (az fq (ab 1))) (ai (cJ (ab 2)) aA) aA) aA) [some (.ref pl), some (.int k), none] Z = some ((.ret (.int 0), [some (.ref pl), some (.int k), some (.int 0)]), Z) := by
   unfold eX
   rw [hr]
   show gC 2 _ [.int 0] _ Z = _
   show cb (ai _ _ [some (.ref pl), some (.int k), some (.int 0)] Z) _ = _
   have : cX (aY (bp (bp (ab 0) (ab 2)) (aS 0)) (az fq (ab 1))) (ai (cJ (ab 2)) aA) aA [some (.ref pl), some (.int k), some (.int 0)] Z = some ((.ret (.int 0), [some (.ref pl), some (.int k), some (.int 0)]), Z) := by
    unfold cX
    rw [ht, show (n == k) = true from beq_iff_eq.mpr hc]
    rfl
   rw [bv this]
   rfl
  rw [bv hf, if_pos hc]
  rfl
 ·have hf : eX 2 (ap fG (ac (ap fM (ac (ab 0) aj)) aj)) (ai (cX (aY (bp (bp (ab 0) (ab 2)) (aS 0)) (az fq (ab 1))) (ai (cJ (ab 2)) aA) aA) aA) [some (.ref pl), some (.int k), none] Z = some ((.next, [some (.ref pl), some (.int k), some (.int 0)]), Z) := by
   unfold eX
   rw [hr]
   show gC 2 _ [.int 0] _ Z = _
   show cb (ai _ _ [some (.ref pl), some (.int k), some (.int 0)] Z) _ = _
   have : cX (aY (bp (bp (ab 0) (ab 2)) (aS 0)) (az fq (ab 1))) (ai (cJ (ab 2)) aA) aA [some (.ref pl), some (.int k), some (.int 0)] Z = some ((.next, [some (.ref pl), some (.int k), some (.int 0)]), Z) := by
    unfold cX
    rw [ht, show (n == k) = false from beq_false_of_ne hc]
    rfl
   rw [av this rfl]
   rfl
  rw [aD hf (bv (v := .int (-1)) (fr1 := [some (.ref pl), some (.int k), some (.int 0)]) (Z1 := Z) rfl), if_neg hc]
  rfl
noncomputable def Fw : PV -> Bool
 | .none => true
 | _ => false
noncomputable def Gi (lp df : Nat) : ee := .inst 4 [.ref lp, .none, .bool true, .int 100, .int 101, .int 102, .int 103, .int 104, .ref df]
theorem xq {Z : St} {pl : Nat} {k : Int} {f : Bool} (h : Z.objs pl = .list (Bc f)) : em [.ref pl, .int k] Z = some (if f = true /\ k = 103 then .tup [.bool true] else .none, Z) := by
 unfold em bg
 show cb (jP [some (.ref pl), some (.int k), none] Z) _ = _
 unfold jP
 cases f with
 | false =>
  have ha : aF 2 (ap cP (ac (ab 0) (ac (ab 1) aj))) [some (.ref pl), some (.int k), none] Z = some ((.next, [some (.ref pl), some (.int k), some (.int (-1))]), Z) := by
   unfold aF
   rw [aG (bo (vs := [.ref pl, .int k]) (Z0 := Z) rfl (rz h))]
   rfl
  rw [aD ha (bv (v := .none) (fr1 := [some (.ref pl), some (.int k), some (.int (-1))]) (Z1 := Z) rfl)]
  rfl
 | true =>
  have h' : Z.objs pl = .list [.tup [.int 103, .bool true]] := h
  have ha : aF 2 (ap cP (ac (ab 0) (ac (ab 1) aj))) [some (.ref pl), some (.int k), none] Z = some ((.next, [some (.ref pl), some (.int k), some (.int (if (103 : Int) = k then 0 else -1))]), Z) := by
   unfold aF
   rw [aG (bo (vs := [.ref pl, .int k]) (Z0 := Z) rfl (Cp h'))]
   rfl
  by_cases hc : (103 : Int) = k
  ·subst hc
   rw [if_pos rfl] at ha
   have hr : cJ (qi (aY (ab 2) (az EQ (aS 0))) (fS (ac (bp (bp (ab 0) (ab 2)) (aS 1)) aj)) bq) [some (.ref pl), some (.int 103), some (.int 0)] Z = some ((.ret (.tup [.bool true]), [some (.ref pl), some (.int 103), some (.int 0)]), Z) := by
    simp only [cJ, ab, ei, fS, qi, ac, aj, aY, az, rO, EQ, bq, aS, List.getElem?_cons_zero, List.getElem?_cons_succ, ↓reduceIte, decide_true, bp, kT, h', Int.le_refl]
    rfl
   rw [aD ha (bv hr)]
   rfl
  ·rw [if_neg hc] at ha
   rw [aD ha (bv (v := .none) (fr1 := [some (.ref pl), some (.int k), some (.int (-1))]) (Z1 := Z) rfl), if_neg (λ q => hc q.2.symm)]
   rfl
theorem zi {Z : St} {ru ov pl lp df : Nat} {w0 w1 w2 : PV} {f : Bool} (h1 : Z.objs ru = Gi lp df) (h2 : Z.objs ov = .inst 2 [w0, w1, w2, .ref pl]) (h3 : Z.objs pl = .list (Bc f)) : cA [.ref ru, .ref ov] Z = some (.bool f, Z) := by
 have hv : jg [.ref ru, .ref pl, .int 103] Z = some (if f then .bool true else .none, Z) := by
  unfold jg bg
  show cb (lc [some (.ref ru), some (.ref pl), some (.int 103), none, none] Z) _ = _
  unfold lc
  have ha : aF 3 (ap em (ac (ab 1) (ac (ab 2) aj))) [some (.ref ru), some (.ref pl), some (.int 103), none, none] Z = some ((.next, [some (.ref ru), some (.ref pl), some (.int 103), some (if f = true /\ (103 : Int) = 103 then .tup [.bool true] else .none), none]), Z) := by
   unfold aF
   rw [aG (bo (vs := [.ref pl, .int 103]) (Z0 := Z) rfl (xq h3))]
   rfl
  cases f with
  | false =>
   have hb : aF 4 (ap em (ac (ab 1) (ac (ak fE (ab 0)) aj))) [some (.ref ru), some (.ref pl), some (.int 103), some .none, none] Z = some ((.next, [some (.ref ru), some (.ref pl), some (.int 103), some .none, some .none]), Z) := by
    unfold aF
    rw [aG (bo (vs := [.ref pl, .int 100]) (Z0 := Z) (by exact aI (aw rfl) (aI (aB (aw rfl) h1 rfl rfl) bZ)) (xq h3))]
    rfl
   have hi : cX (aY (ab 3) (az uQ bq)) (ai (aF 4 (ap em (ac (ab 1) (ac (ak fE (ab 0)) aj))))
  (ai (cX (c9 (aY (ab 4) (az bR bq)) (c9 Cd cR)) (ai zT aA) aA) aA)) aA [some (.ref ru), some (.ref pl), some (.int 103), some .none, none] Z = some ((.next, [some (.ref ru), some (.ref pl), some (.int 103), some .none, some .none]), Z) := by
    show ai _ _ _ Z = _
    exact aD hb rfl
   rw [aD ha (aD hi (bv (v := .none) (fr1 := [some (.ref ru), some (.ref pl), some (.int 103), some .none, some .none]) (Z1 := Z) (by exact mD (EP (dM (aw rfl) eH rfl) (aB (aw rfl) h1 rfl rfl)))))]
   rfl
  | true =>
   rw [aD ha (av (Z1 := Z) rfl (bv (v := .bool true) (fr1 := [some (.ref ru), some (.ref pl), some (.int 103), some (.tup [.bool true]), none]) (Z1 := Z) rfl))]
   rfl
 have hg : eA [.ref ru, .ref ov, .int 103] Z = some (if f then .bool true else .none, Z) := by
  unfold eA bg
  show cb (iu [some (.ref ru), some (.ref ov), some (.int 103)] Z) _ = _
  unfold iu
  rw [bv (v := if f then .bool true else .none) (fr1 := [some (.ref ru), some (.ref ov), some (.int 103)]) (Z1 := Z) (by
   unfold cJ
   rw [aG (bo (vs := [.ref ru, .ref pl, .int 103]) (Z0 := Z) (by exact aI (aw rfl) (aI (aB (aw rfl) h2 rfl rfl) (aI (aw rfl) bZ))) hv)])]
  rfl
 have hn : ∀ v : PV, (v = .none \/ v = .bool true) -> bC [.ref ru, v] Z = some (.bool (Fw v), Z) := by
  intro v hv
  have he : AC [v, .none] Z = some (.bool (Fw v), Z) := by
   rcases hv with rfl | rfl <;> rfl
  unfold bC bg
  show cb (dD [some (.ref ru), some v] Z) _ = _
  unfold dD
  rw [bv (v := .bool (Fw v)) (fr1 := [some (.ref ru), some v]) (Z1 := Z) (by
   unfold cJ
   rw [aG (bo (vs := [v, .none]) (Z0 := Z) (by exact aI (aw rfl) (aI (aB (aw rfl) h1 rfl rfl) bZ)) he)])]
  rfl
 unfold cA bg
 show cb (iv [some (.ref ru), some (.ref ov)] Z) _ = _
 unfold iv
 have hcall : ap eA (ac (ab 0) (ac (ab 1) (ac (ak dm (ab 0)) aj))) [some (.ref ru), some (.ref ov)] Z = some (if f then .bool true else .none, Z) := bo (vs := [.ref ru, .ref ov, .int 103]) (Z0 := Z) (by exact aI (aw rfl) (aI (aw rfl) (aI (aB (aw rfl) h1 rfl rfl) bZ))) hg
 have hown : mR 4 bC (ab 0) (ac (ap eA (ac (ab 0) (ac (ab 1) (ac (ak dm (ab 0)) aj)))) aj) [some (.ref ru), some (.ref ov)] Z = some (.bool (!f), Z) := by
  unfold mR
  show cb (some (PV.ref ru, Z)) _ = _
  show (if Bq 4 (.ref ru) Z = true then _ else _) = _
  have hc : Bq 4 (.ref ru) Z = true := by unfold Bq; simp only [h1, Gi]; rfl
  rw [if_pos hc]
  unfold ac
  rw [aG (aG hcall)]
  show bC [.ref ru, _] Z = _
  cases f with
  | false => exact hn _ (.inl rfl)
  | true => exact hn _ (.inr rfl)
 rw [bv (v := .bool f) (fr1 := [some (.ref ru), some (.ref ov)]) (Z1 := Z) (by
  unfold cJ ty
  rw [aG (aG hown)]
  cases f <;> rfl)]
 rfl
section
structure G where
 hm : Nat
 ru : Nat
 tr : Nat
 od : Nat
 ov : Nat -> Nat
 nd : Nat -> Nat
 pl : Nat -> Nat
 tag : Nat -> Nat × Nat
 N : Nat
 lv : Nat -> Bool
 fl : Nat -> Bool
 B : Nat -> Int
 E : Nat -> Int
noncomputable def G.it (g : G) (k : Nat) : It := ⟨g.nd k, .int k, g.B k, g.E k⟩
noncomputable def G.homeOf (g : G) (k : Nat) : PV := if g.lv k then .ref g.hm else .none
def sR (k : Nat) (o : ee) : Prop := ∃ b e fa ra l f r, o = .inst 0 [.int k, .int b, .int e, fa, ra, .int l, .int f, .bool r, .none, .none, .none]
structure PS (Z : St) (g : G) (t : T) : Prop where
 home : Z.objs g.hm = .inst 3 [.ref g.tr, .ref g.od, .ref g.ru]
 rules : ∃ lp df, Z.objs g.ru = Gi lp df
 tree : jX Z g.tr t
 ub : t.UB
 shape : t.shape ∈ LS
 sorted : jA (t.inord 0)
 items : ∀ it, it ∈ t.inord 0 ↔ ∃ k, k < g.N /\ g.lv k = true /\ it = g.it k
 be : ∀ k, k < g.N -> g.lv k = true -> g.B k <= g.E k
 dict : ∃ D, Z.objs g.od = .dict D /\ (D.map (·.1)).Nodup /\ D.length <= 100 /\ (∀ k, k < g.N -> g.lv k = true -> gL D k = some (.ref (g.ov k))) /\ ∀ kv ∈ D, ∃ k : Nat, k < g.N /\ g.lv k = true /\ kv.1 = k
 over : ∀ k, k < g.N -> Z.objs (g.ov k) = .inst 2 [.int k, .ref (g.nd k), g.homeOf k, .ref (g.pl k)]
 plist : ∀ k, k < g.N -> Z.objs (g.pl k) = .list (Bc (g.fl k))
 node : ∀ k, k < g.N -> g.lv k = false -> sR k (Z.objs (g.nd k))
 thm : g.tag g.hm = (1, 0)
 tru : g.tag g.ru = (2, 0)
 ttr : g.tag g.tr = (3, 0)
 tod : g.tag g.od = (4, 0)
 tov : ∀ k, k < g.N -> g.tag (g.ov k) = (5, k)
 tnd : ∀ k, k < g.N -> g.tag (g.nd k) = (6, k)
 tpl : ∀ k, k < g.N -> g.tag (g.pl k) = (7, k)
 lhm : g.hm < Z.next
 lru : g.ru < Z.next
 lod : g.od < Z.next
 lov : ∀ k, k < g.N -> g.ov k < Z.next
 lnd : ∀ k, k < g.N -> g.nd k < Z.next
 lpl : ∀ k, k < g.N -> g.pl k < Z.next
structure nh (g : G) (Z Z' : St) : Prop where
 next : Z.next <= Z'.next
 old : ∀ a, a < Z.next -> 10 <= (g.tag a).1 -> Z'.objs a = Z.objs a
theorem nh.refl {g : G} {Z : St} : nh g Z Z := ⟨Nat.le_refl _, λ _ _ _ => rfl⟩
theorem nh.trans {g : G} {Z Z' Z'' : St} (h : nh g Z Z') (k : nh g Z' Z'') : nh g Z Z'' := ⟨Nat.le_trans h.next k.next, λ a h1 h2 => (k.old a (Nat.lt_of_lt_of_le h1 h.next) h2).trans (h.old a h1 h2)⟩
theorem cw {g : G} {a c m n : Nat} (h : g.tag a = (m, n)) (k : m ≠ c) : (g.tag a).1 ≠ c := by rw [h]; exact k
theorem mA {g : G} {a c m n : Nat} (h : g.tag a = (m, n)) (k : m < c) : (g.tag a).1 < c := by rw [h]; exact k
theorem bQ {g : G} {a b m n m' n' : Nat} (h : g.tag a = (m, n)) (k : g.tag b = (m', n')) (hn : m ≠ m') : a ≠ b := λ z => hn (by rw [z, k] at h; exact (congrArg Prod.fst h).symm)
section
variable {Z Z' : St} {g : G} {t t' : T}
theorem PS.tids (P : PS Z g t) {a : Nat} (ha : a ∈ t.ids) : ∃ k, k < g.N /\ g.lv k = true /\ a = g.nd k := by
 rw [<- T.inord_ids 0] at ha
 refine aQ (List.mem_map.mp ha) λ it h1 qq1 => ?_; obtain rfl := qq1
 refine cj ((P.items it).mp h1) λ k h2 h3 qq2 => ?_; obtain rfl := qq2
 exact fk k h2 h3 rfl
theorem PS.ndMem (P : PS Z g t) {k : Nat} (hk : k < g.N) (hl : g.lv k = true) : g.nd k ∈ t.ids := by
 rw [<- T.inord_ids 0]
 exact List.mem_map.mpr ⟨g.it k, (P.items _).mpr ⟨k, hk, hl, rfl⟩, rfl⟩
theorem PS.ndInj (P : PS Z g t) {k j : Nat} (hk : k < g.N) (hj : j < g.N) (h : g.nd k = g.nd j) : k = j := by
 have h1 := P.tnd k hk
 have h2 := P.tnd j hj
 rw [h, h2] at h1
 exact (congrArg Prod.snd h1).symm
theorem PS.at_ (P : PS Z g t) {k : Nat} (hk : k < g.N) (hl : g.lv k = true) : ∃ i : Nat, t.ids[i]? = some (g.nd k) /\ (t.inord 0)[i]? = some (g.it k) := by
 refine br (List.mem_iff_getElem?.mp (P.ndMem hk hl)) λ i hi => ?_
 refine ⟨i, hi, ?_⟩
 have h1 : (t.inord 0)[i]?.map (·.id) = some (g.nd k) := by rw [<- List.getElem?_map, T.inord_ids]; exact hi
 refine aQ (Option.map_eq_some_iff.mp h1) λ y h2 h3 => ?_
 refine cj ((P.items y).mp (List.mem_of_getElem? h2)) λ j h4 h5 qq1 => ?_; obtain rfl := qq1
 have : j = k := P.ndInj h4 hk h3
 rw [<- this]; exact h2
theorem PS.ovInj (P : PS Z g t) {k j : Nat} (hk : k < g.N) (hj : j < g.N) (h : g.ov k = g.ov j) : k = j := by
 have h1 := P.tov k hk
 rw [h, P.tov j hj] at h1
 exact (congrArg Prod.snd h1).symm
theorem PS.ndNot (P : PS Z g t) {k : Nat} (hk : k < g.N) (hl : g.lv k = false) : g.nd k ∉ t.ids := λ q => by
 refine cj (P.tids q) λ j h1 h2 h3 => ?_
 have := P.ndInj hk h1 h3
 subst this
 rw [hl] at h2; cases h2
theorem PS.far_not (P : PS Z g t) {a : Nat} (h : (g.tag a).1 ≠ 3) (h2 : (g.tag a).1 ≠ 6) : a ∉ g.tr :: t.ids := λ q => by
 rcases List.mem_cons.mp q with q | q
 ·rw [q, P.ttr] at h; exact h rfl
 ·refine cj (P.tids q) λ k h1 _ qq3 => ?_; obtain rfl := qq3
  rw [P.tnd k h1] at h2; exact h2 rfl
theorem PS.unt (P : PS Z g t) (F : xU Z (g.tr :: t.ids) Z') : nh g Z Z' := ⟨F.next, λ a h1 h2 => F.old a h1 (P.far_not (by omega) (by omega))⟩
theorem PS.turn (P : PS Z g t) (F : xU Z (g.tr :: t.ids) Z') (hT : jX Z' g.tr t') (hub : t'.UB) (hs : t'.shape ∈ LS) (hi : t'.inord 0 = t.inord 0) : PS Z' g t' := by
 have o : ∀ a, a < Z.next -> (g.tag a).1 ≠ 3 -> (g.tag a).1 ≠ 6 -> Z'.objs a = Z.objs a := λ a h1 h2 h3 => F.old a h1 (P.far_not h2 h3)
 refine fj P.rules λ lp df hr => ?_
 refine br P.dict λ D hD => ?_
 refine ⟨?_, ⟨lp, df, ?_⟩, hT, hub, hs, by rw [hi]; exact P.sorted, by rw [hi]; exact P.items, P.be, ⟨D, ?_, hD.2⟩, λ k hk => ?_, λ k hk => ?_, λ k hk hl => ?_, P.thm, P.tru, P.ttr, P.tod, P.tov, P.tnd, P.tpl, Nat.lt_of_lt_of_le P.lhm F.next, Nat.lt_of_lt_of_le P.lru F.next, Nat.lt_of_lt_of_le P.lod F.next, λ k hk => Nat.lt_of_lt_of_le (P.lov k hk) F.next, λ k hk => Nat.lt_of_lt_of_le (P.lnd k hk) F.next, λ k hk => Nat.lt_of_lt_of_le (P.lpl k hk) F.next⟩
 ·rw [o _ P.lhm (cw P.thm (by decide)) (cw P.thm (by decide))]; exact P.home
 ·rw [o _ P.lru (cw P.tru (by decide)) (cw P.tru (by decide))]; exact hr
 ·rw [o _ P.lod (cw P.tod (by decide)) (cw P.tod (by decide))]; exact hD.1
 ·rw [o _ (P.lov k hk) (cw (P.tov k hk) (by decide)) (cw (P.tov k hk) (by decide))]; exact P.over k hk
 ·rw [o _ (P.lpl k hk) (cw (P.tpl k hk) (by decide)) (cw (P.tpl k hk) (by decide))]; exact P.plist k hk
 ·rw [F.old _ (P.lnd k hk) ?_]
  ·exact P.node k hk hl
  ·intro q
   rcases List.mem_cons.mp q with q | q
   ·have h1 := P.tnd k hk
    rw [q, P.ttr] at h1; cases h1
   ·exact P.ndNot hk hl q
theorem yv {l : List It} (hn : (l.map (·.id)).Nodup) {j : Nat} {y : It} (hj : l[j]? = some y) (x : It) : x ∈ l.eraseIdx j ↔ x ∈ l /\ x.id ≠ y.id := by
 induction l generalizing j with
 | nil => simp at hj
 | cons z l ih =>
  rw [List.map_cons, List.nodup_cons] at hn
  cases j with
  | zero =>
   cases hj
   show x ∈ l ↔ _
   constructor
   ·intro h; exact ⟨List.mem_cons_of_mem _ h, λ q => hn.1 (by rw [<- q]; exact List.mem_map_of_mem h)⟩
   ·rintro ⟨h, q⟩
    rcases List.mem_cons.mp h with h | h
    ·rw [h] at q; exact absurd rfl q
    ·exact h
  | succ j =>
   have hj' : l[j]? = some y := by simpa using hj
   show x ∈ z :: l.eraseIdx j ↔ _
   rw [List.mem_cons, List.mem_cons, ih hn.2 hj']
   constructor
   ·rintro (rfl | ⟨h1, h2⟩)
    ·exact ⟨.inl rfl, λ q => hn.1 (by rw [q]; exact List.mem_map_of_mem (List.mem_of_getElem? hj'))⟩
    ·exact ⟨.inr h1, h2⟩
   ·rintro ⟨rfl | h1, h2⟩
    ·exact .inl rfl
    ·exact .inr ⟨h1, h2⟩
theorem xB (D : List (Int × PV)) (k j : Int) (h : j ≠ k) : gL (lG D k) j = gL D j := by
 unfold gL lG
 congr 1
 induction D with
 | nil => rfl
 | cons e D ih =>
  rw [List.filter_cons]
  by_cases q : e.1 = k
  ·simp only [q, ne_eq, not_true, decide_false, Bool.false_eq_true, if_false]
   rw [ih, List.find?_cons, show decide (e.1 = j) = false by simp [q, Ne.symm h]]
  ·simp only [q, ne_eq, not_false_eq_true, decide_true, if_true]
   rw [List.find?_cons, List.find?_cons, ih]
theorem sG {D : List (Int × PV)} {k : Int} {v : PV} (h : gL D k = some v) : (k, v) ∈ D := by
 unfold gL at h
 refine aQ (Option.map_eq_some_iff.mp h) λ e h1 qq4 => ?_; obtain rfl := qq4
 have h2 := List.find?_some h1
 have h3 := List.mem_of_find?_eq_some h1
 have : e.1 = k := by simpa using h2
 rw [<- this]; exact h3
noncomputable def G.out (g : G) (k : Nat) : G := { g with lv := λ j => if j = k then false else g.lv j }
theorem By {a b : ag -> M PV} {fr : ag} {Z Z0 : St} {d : Nat} {k : Int} {D : List (Int × PV)} {v : PV} (ha : a fr Z0 = some (.ref d, Z)) (ho : Z.objs d = .dict D) (hb : b fr Z = some (.int k, Z)) (hg : gL D k = some v) :
  bi (ds EI nc a b) fr Z0 = some ((.next, fr), Z.set d (.dict (lG D k))) := by
 refine BS (p := v) ?_
 unfold ds
 rw [aG ha, if_pos (by unfold EI; simp only [ho]), aG hb]
 unfold nc
 simp only [ho, hg]
theorem mG (P : PS Z g t) {k : Nat} (hk : k < g.N) (hl : g.lv k = true) : ∃ Z' t', cF [.ref (g.ov k)] Z = some (.none, Z') /\ PS Z' (g.out k) t' /\ nh g Z Z' /\ (g.fl = g.fl) := by
 have ho := P.over k hk
 rw [show g.homeOf k = .ref g.hm from if_pos hl] at ho
 refine aQ (P.at_ hk hl) λ i hi hyk => ?_
 refine iV (AX P.tree P.ub P.shape hi) λ p Z1 t1 e1 qq26 => ?_; obtain ⟨e2, e3, e4, e5, e6, x, b', e', l', o', r', hx, hnode⟩ := qq26
 have oo : ∀ a, a < Z.next -> (g.tag a).1 ≠ 3 -> (g.tag a).1 ≠ 6 -> Z1.objs a = Z.objs a := λ a h1 h2 h3 => e6.old a h1 (P.far_not h2 h3)
 have ho1 : Z1.objs (g.ov k) = .inst 2 [.int k, .ref (g.nd k), .ref g.hm, .ref (g.pl k)] := by rw [oo _ (P.lov k hk) (cw (P.tov k hk) (by decide)) (cw (P.tov k hk) (by decide))]; exact ho
 have hh1 : Z1.objs g.hm = .inst 3 [.ref g.tr, .ref g.od, .ref g.ru] := by rw [oo _ P.lhm (cw P.thm (by decide)) (cw P.thm (by decide))]; exact P.home
 refine gJ P.dict λ D hD hDn hDl hD1 hD2 => ?_
 have hd1 : Z1.objs g.od = .dict D := by rw [oo _ P.lod (cw P.tod (by decide)) (cw P.tod (by decide))]; exact hD
 have nvd : g.ov k ≠ g.od := bQ (P.tov k hk) P.tod (by decide)
 have ndv := Ne.symm nvd
 have hhome := P.home
 have hget := hD1 k hk hl
 generalize hσ3 : (Z1.set g.od (.dict (lG D k))).set (g.ov k) (.inst 2 [.int k, .ref (g.nd k), .none, .ref (g.pl k)]) = Z3; revert Z3; refine qQ ?_; intro Z3 hσ3
 have hrun : cF [.ref (g.ov k)] Z = some (.none, Z3) := by
  unfold cF bg
  show cb (hR [some (.ref (g.ov k))] Z) _ = _
  unfold hR
  have h1 : aY (ak cK (ab 0)) (az bR bq) [some (.ref (g.ov k))] Z = some (true, Z) := by exact dM (aB (aw rfl) ho rfl rfl) eH rfl
  have h2 : bi (ap fD (ac (ak cL (ak cK (ab 0))) (ac (ak bW (ab 0)) aj))) [some (.ref (g.ov k))] Z = some ((.next, [some (.ref (g.ov k))]), Z1) :=
   cv (vs := [.ref g.tr, .ref (g.nd k)]) (Z0 := Z) (by exact aI (aB (aB (aw rfl) ho rfl rfl) hhome rfl rfl) (aI (aB (aw rfl) ho rfl rfl) bZ)) e1
  have h3 : bi (ds EI nc (ak ca (ak cK (ab 0))) (ak bP (ab 0))) [some (.ref (g.ov k))] Z1 = some ((.next, [some (.ref (g.ov k))]), Z1.set g.od (.dict (lG D k))) := by
   exact By (aB (aB (aw rfl) ho1 rfl rfl) hh1 rfl rfl) hd1 (aB (aw rfl) ho1 rfl rfl) hget
  have h4 : am cK (ab 0) bq [some (.ref (g.ov k))] (Z1.set g.od (.dict (lG D k))) = some ((.next, [some (.ref (g.ov k))]), Z3) := by
   rw [<- hσ3]
   exact cr eH (aw rfl) (Eq.trans (ef nvd) ho1) rfl
  have h5 : cX (aY (ak cK (ab 0)) (az bR bq)) (ai (bi (ap fD (ac (ak cL (ak cK (ab 0))) (ac (ak bW (ab 0)) aj)))) (ai (bi (ds EI nc (ak ca (ak cK (ab 0))) (ak bP (ab 0)))) (ai (am cK (ab 0) bq) aA))) aA [some (.ref (g.ov k))] Z = some ((.next, [some (.ref (g.ov k))]), Z3) := by
   unfold cX
   rw [h1]
   exact av h2 (av h3 (av h4 rfl))
  rw [av h5 rfl]
  rfl
 have o3 : ∀ a, a ≠ g.od -> a ≠ g.ov k -> Z3.objs a = Z1.objs a := λ a h1 h2 => by rw [<- hσ3, aT, if_neg h2, aT, if_neg h1]
 have n3 : Z3.next = Z1.next := by rw [<- hσ3]; rfl
 have hle : Z.next <= Z3.next := by rw [n3]; exact e6.next
 have hod3 : Z3.objs g.od = .dict (lG D k) := by rw [<- hσ3, aT, if_neg ndv, aT, if_pos rfl]
 have hov3 : Z3.objs (g.ov k) = .inst 2 [.int k, .ref (g.nd k), .none, .ref (g.pl k)] := by rw [<- hσ3]; exact if_pos rfl
 have keep : ∀ a, a < Z.next -> (g.tag a).1 ≠ 3 -> (g.tag a).1 ≠ 6 -> a ≠ g.od -> a ≠ g.ov k -> Z3.objs a = Z.objs a := λ a h1 h2 h3 h4 h5 => (o3 a h4 h5).trans (oo a h1 h2 h3)
 have hidn : ((t.inord 0).map (·.id)).Nodup := by rw [T.inord_ids]; exact (List.nodup_cons.mp P.tree.nodup).2
 refine fj P.rules λ lp df hr => ?_
 have t1sub : ∀ a ∈ g.tr :: t1.ids, a ≠ g.od /\ a ≠ g.ov k := by
  intro a ha
  have h1 : a ∈ g.tr :: t.ids := by
   rcases List.mem_cons.mp ha with q | q
   ·rw [q]; exact List.mem_cons_self ..
   ·rw [<- T.inord_ids 0, e4] at q
    refine aQ (List.mem_map.mp q) λ it h2 qq6 => ?_; obtain rfl := qq6
    rw [<- T.inord_ids 0]
    exact List.mem_cons_of_mem _ (List.mem_map_of_mem ((List.eraseIdx_sublist _ _).subset h2))
  rcases List.mem_cons.mp h1 with q | q
  ·rw [q]
   exact ⟨(bQ P.ttr P.tod (by decide)), (bQ P.ttr (P.tov k hk) (by decide))⟩
  ·refine cj (P.tids q) λ j h2 _ qq7 => ?_; obtain rfl := qq7
   exact ⟨(bQ (P.tnd j h2) P.tod (by decide)), (bQ (P.tnd j h2) (P.tov k hk) (by decide))⟩
 refine qh Z3 t1 hrun ⟨?_, ⟨lp, df, ?_⟩, ⟨?_, ?_, e2.nodup, λ a ha => by rw [n3]; exact e2.lt a ha⟩, e5, e3, ?_, λ it => ?_, λ j hj hlj => ?_, ⟨lG D k, hod3, ?_, ?_, λ j hj hlj => ?_, λ kv hkv => ?_⟩, λ j hj => ?_, λ j hj => ?_, λ j hj hlj => ?_, P.thm, P.tru, P.ttr, P.tod, P.tov, P.tnd, P.tpl, Nat.lt_of_lt_of_le P.lhm hle, Nat.lt_of_lt_of_le P.lru hle, Nat.lt_of_lt_of_le P.lod hle, λ k hk => Nat.lt_of_lt_of_le (P.lov k hk) hle, λ k hk => Nat.lt_of_lt_of_le (P.lnd k hk) hle, λ k hk => Nat.lt_of_lt_of_le (P.lpl k hk) hle⟩ ⟨hle, λ a h1 h2 => ?_⟩ rfl
 ·show Z3.objs g.hm = _
  rw [keep _ P.lhm (cw P.thm (by decide)) (cw P.thm (by decide)) (bQ P.thm P.tod (by decide)) (bQ P.thm (P.tov k hk) (by decide))]; exact P.home
 ·show Z3.objs g.ru = _
  rw [keep _ P.lru (cw P.tru (by decide)) (cw P.tru (by decide)) (bQ P.tru P.tod (by decide)) (bQ P.tru (P.tov k hk) (by decide))]; exact hr
 ·refine br e2.root λ cnt hc => ?_
  exact uN cnt (by show Z3.objs g.tr = _; rw [o3 _ (t1sub _ (List.mem_cons_self ..)).1 (t1sub _ (List.mem_cons_self ..)).2]; exact hc)
 ·exact Sub.of (λ a ha => o3 a (t1sub a (List.mem_cons_of_mem _ ha)).1 (t1sub a (List.mem_cons_of_mem _ ha)).2) e2.sub
 ·rw [e4]; exact P.sorted.sublist (List.eraseIdx_sublist _ _)
 ·rw [e4, yv hidn hyk, P.items]
  constructor
  ·intro qq3; refine bK qq3 λ qq4 h3 => ?_; refine cj qq4 λ j h1 h2 qq71 => ?_; obtain rfl := qq71
   refine fk j h1 ?_ rfl
   have : j ≠ k := λ q => h3 (by rw [q])
   show (if j = k then false else g.lv j) = true
   rw [if_neg this]; exact h2
  ·intro qq5; refine cj qq5 λ j h1 h2 qq6 => ?_; obtain rfl := qq6
   have h2' : (if j = k then false else g.lv j) = true := h2
   have hjk : j ≠ k := λ q => by rw [if_pos q] at h2'; cases h2'
   rw [if_neg hjk] at h2'
   exact ⟨⟨j, h1, h2', rfl⟩, λ q => hjk (P.ndInj h1 hk q)⟩
 ·have h2' : (if j = k then false else g.lv j) = true := hlj
  have hjk : j ≠ k := λ q => by rw [if_pos q] at h2'; cases h2'
  rw [if_neg hjk] at h2'
  exact P.be j hj h2'
 ·exact hDn.sublist ((List.filter_sublist (p := _)).map _)
 ·exact Nat.le_trans (List.length_filter_le _ _) hDl
 ·have h2' : (if j = k then false else g.lv j) = true := hlj
  have hjk : j ≠ k := λ q => by rw [if_pos q] at h2'; cases h2'
  rw [if_neg hjk] at h2'
  rw [xB _ _ _ (by lia)]
  exact hD1 j hj h2'
 ·unfold lG at hkv
  rw [List.mem_filter] at hkv
  refine cj (hD2 kv hkv.1) λ j h1 h2 h3 => ?_
  refine fk j h1 ?_ h3
  have : j ≠ k := λ q => by have h := hkv.2; rw [h3, q] at h; simp at h
  show (if j = k then false else g.lv j) = true
  rw [if_neg this]; exact h2
 ·show Z3.objs (g.ov j) = .inst 2 [.int j, .ref (g.nd j), if (if j = k then false else g.lv j) = true then .ref g.hm else .none, .ref (g.pl j)]
  by_cases q : j = k
  ·subst q
   rw [hov3, if_pos rfl]; rfl
  ·rw [if_neg q]
   rw [keep _ (P.lov j hj) (cw (P.tov j hj) (by decide)) (cw (P.tov j hj) (by decide)) (bQ (P.tov j hj) P.tod (by decide)) (λ z => q (P.ovInj hj hk z))]
   exact P.over j hj
 ·show Z3.objs (g.pl j) = _
  rw [keep _ (P.lpl j hj) (cw (P.tpl j hj) (by decide)) (cw (P.tpl j hj) (by decide)) (bQ (P.tpl j hj) P.tod (by decide)) (bQ (P.tpl j hj) (P.tov k hk) (by decide))]
  exact P.plist j hj
 ·have hj' : j < g.N := hj
  have hndo : g.nd j ≠ g.od /\ g.nd j ≠ g.ov k := ⟨(bQ (P.tnd j hj') P.tod (by decide)), (bQ (P.tnd j hj') (P.tov k hk) (by decide))⟩
  show sR j (Z3.objs (g.nd j))
  rw [o3 _ hndo.1 hndo.2]
  by_cases q : j = k
  ·subst q
   rw [hnode]
   have hxn : x.num = .int j := by
    have hh : ∀ (t : T) (c : Int) (i : Nat) (x : Nd), t.nodes[i]? = some x -> ∃ it, (t.inord c)[i]? = some it /\ it.num = x.num := by
     intro t
     induction t with
     | E => intro c i x h; simp [T.nodes] at h
     | N l y r ih1 ih2 =>
      intro c i x h
      have h' : (l.nodes ++ y :: r.nodes)[i]? = some x := h
      show ∃ it, (l.inord (c + y.off) ++ _ :: r.inord (c + y.off))[i]? = some it /\ _
      rcases Nat.lt_or_ge i l.nodes.length with q | q
      ·rw [List.getElem?_append_left q] at h'
       rw [List.getElem?_append_left (by rw [T.inord_length]; exact q)]
       exact ih1 _ i x h'
      ·rw [List.getElem?_append_right q] at h'
       rw [List.getElem?_append_right (by rw [T.inord_length]; exact q), T.inord_length]
       cases hh : i - l.nodes.length with
       | zero => rw [hh] at h'; cases ej h'; exact cC _ rfl rfl
       | succ n =>
        rw [hh, List.getElem?_cons_succ] at h'
        rw [List.getElem?_cons_succ]
        exact ih2 _ n x h'
    refine aQ (hh t 0 i x hx) λ it h1 h2 => ?_
    rw [hyk] at h1
    cases ej h1
    rw [<- h2]; rfl
   rw [hxn]
   exact GS b' e' x.fa x.ra l' o' r' rfl
  ·have hl' : g.lv j = false := by
    have : (if j = k then false else g.lv j) = false := hlj
    rwa [if_neg q] at this
   rw [e6.old _ (P.lnd j hj') ?_]
   ·exact P.node j hj' hl'
   ·intro z
    rcases List.mem_cons.mp z with z | z
    ·have := P.tnd j hj'; rw [z, P.ttr] at this; cases this
    ·exact P.ndNot hj' hl' z
 ·refine keep a h1 (by lia) (by lia) (λ z => ?_) (λ z => ?_)
  ·rw [z, P.tod] at h2; simp at h2
  ·rw [z, P.tov k hk] at h2; simp at h2
theorem AP {k : Nat} (P : PS Z g t) (hk : k < g.N) (hl : g.lv k = false) : cF [.ref (g.ov k)] Z = some (.none, Z) := by
 have ho := P.over k hk
 rw [show g.homeOf k = .none from if_neg (by rw [hl]; decide)] at ho
 unfold cF bg
 show cb (hR [some (.ref (g.ov k))] Z) _ = _
 unfold hR
 have h1 : aY (ak cK (ab 0)) (az bR bq) [some (.ref (g.ov k))] Z = some (false, Z) := by exact dM (aB (aw rfl) ho rfl rfl) eH rfl
 rw [av (Z1 := Z) (by unfold cX; rw [h1]; rfl) rfl]
 rfl
end
end
section
theorem oO : ∀ {l R : List Nat}, l.Nodup -> (∀ x ∈ l, x ∈ R) -> l.length <= R.length
 | [], _, _, _ => Nat.zero_le _
 | x :: l, R, hn, h => by
  rw [List.nodup_cons] at hn
  have hx := h x (List.mem_cons_self ..)
  have := oO (l := l) (R := R.erase x) hn.2 λ y hy => by
   have hne : y ≠ x := λ q => hn.1 (q ▸ hy)
   exact (List.mem_erase_of_ne hne).mpr (h y (List.mem_cons_of_mem _ hy))
  rw [List.length_erase_of_mem hx] at this
  have h0 : 0 < R.length := List.length_pos_of_mem hx
  rw [List.length_cons]; lia
section
variable {Z Z' : St} {g : G} {t t' : T}
theorem AV {N : Nat} {nd : Nat -> Nat} {L : List Nat} (hn : L.Nodup) {p : Nat -> Prop} (h : ∀ a ∈ L, ∃ k, k < N /\ p k /\ a = nd k) {k0 : Nat} (hk0 : k0 < N) (hp : ¬ p k0) : L.length <= N - 1 := by
 have ex : ∀ a : {a // a ∈ L}, ∃ k, k < N /\ p k /\ a.1 = nd k := λ a => h a.1 a.2
 let f : {a // a ∈ L} -> Nat := λ a => Classical.choose (ex a)
 have hf : ∀ a, f a < N /\ p (f a) /\ a.1 = nd (f a) := λ a => Classical.choose_spec (ex a)
 have hnd : (L.attach.map f).Nodup := by
  rw [List.nodup_iff_pairwise_ne, List.pairwise_map]
  have himp : ∀ {a b : {a // a ∈ L}}, a.1 ≠ b.1 -> f a ≠ f b := λ {a b} hab q => hab (by rw [(hf a).2.2, (hf b).2.2, q])
  refine List.Pairwise.imp (R := λ a b : {a // a ∈ L} => a.1 ≠ b.1) himp ?_
  ·have : (L.attach.map (·.1)).Pairwise (· ≠ ·) := by
    have e : L.attach.map (·.1) = L := List.attach_map_subtype_val L
    rw [e]; exact List.nodup_iff_pairwise_ne.mp hn
   exact List.pairwise_map.mp this
 have := oO (R := (List.range N).erase k0) hnd λ x hx => by
  refine aQ (List.mem_map.mp hx) λ a _ qq1 => ?_; obtain rfl := qq1
  have h1 := hf a
  exact (List.mem_erase_of_ne (λ q : f a = k0 => hp (by rw [<- q]; exact h1.2.1))).mpr (List.mem_range.mpr h1.1)
 rw [List.length_map, List.length_attach, List.length_erase_of_mem (List.mem_range.mpr hk0), List.length_range] at this
 exact this
theorem PS.room (P : PS Z g t) (hN : g.N <= 6) {k : Nat} (hk : k < g.N) (hl : g.lv k = false) : t.shape.size <= 5 := by
 have := AV (p := λ k => g.lv k = true) (List.nodup_cons.mp P.tree.nodup).2 (λ a ha => P.tids ha) hk (by rw [hl]; decide)
 rw [T.shape_size]
 simp only [T.ids, List.length_map] at this
 lia
theorem pR {it x : It} : ∀ {l : List It}, x ∈ fB it l ↔ x = it \/ x ∈ l
 | [] => by unfold fB; simp
 | y :: l => by
  unfold fB
  split
  ·simp
  ·rw [List.mem_cons, pR, List.mem_cons]
   constructor
   ·rintro (h | h | h)
    ·exact .inr (.inl h)
    ·exact .inl h
    ·exact .inr (.inr h)
   ·rintro (h | h | h)
    ·exact .inr (.inl h)
    ·exact .inl h
    ·exact .inr (.inr h)
theorem nY {it : It} : ∀ {l : List It}, jA l -> jA (fB it l)
 | [], _ => by unfold fB; exact List.pairwise_singleton _ _
 | y :: l, h => by
  have hp := List.pairwise_cons.mp h
  unfold fB
  split
  ·rename_i hle
   refine List.pairwise_cons.mpr ⟨λ z hz => ?_, h⟩
   rcases List.mem_cons.mp hz with rfl | hz
   ·exact hle
   ·exact Int.le_trans hle (hp.1 z hz)
  ·rename_i hgt
   refine List.pairwise_cons.mpr ⟨λ z hz => ?_, nY hp.2⟩
   rcases pR.mp hz with rfl | hz
   ·show y.b <= z.b; lia
   ·exact hp.1 z hz
noncomputable def G.lay (g : G) (k : Nat) (b e : Int) : G := { g with lv := λ j => if j = k then true else g.lv j, B := λ j => if j = k then b else g.B j, E := λ j => if j = k then e else g.E j }
section
variable {g : G} {k j : Nat} {b e : Int}
theorem Ee (g : G) (k : Nat) (b e : Int) : (g.out k).lay k b e = g.lay k b e :=
 congrArg (λ f => { g with lv := f, B := λ j => if j = k then b else g.B j, E := λ j => if j = k then e else g.E j }) (funext λ j => by
  by_cases q : j = k
  ·exact (if_pos q).trans (if_pos q).symm
  ·exact (if_neg q).trans ((if_neg q).trans (if_neg q).symm))
theorem pK (h : j ≠ k) : (g.lay k b e).lv j = g.lv j := if_neg h
theorem EA (h : j ≠ k) : (g.lay k b e).B j = g.B j := if_neg h
theorem Em (h : j ≠ k) : (g.lay k b e).E j = g.E j := if_neg h
theorem Ck (h : j ≠ k) : (g.lay k b e).it j = g.it j := by
 show It.mk _ _ ((g.lay k b e).B j) ((g.lay k b e).E j) = It.mk _ _ _ _
 rw [EA h, Em h]; rfl
theorem Ah : (g.lay k b e).it k = ⟨g.nd k, .int k, b, e⟩ := by
 show It.mk _ _ (if k = k then b else _) (if k = k then e else _) = _
 rw [if_pos rfl, if_pos rfl]; rfl
theorem yO {a b c : ag -> M PV} {fr : ag} {Z Z0 : St} {d : Nat} {k : Int} {D : List (Int × PV)} {v : PV} (hc : c fr Z0 = some (v, Z0)) (ha : a fr Z0 = some (.ref d, Z)) (hb : b fr Z = some (.int k, Z)) (ho : Z.objs d = .dict D) (hl : D.length < 1000) :
  fw a b c fr Z0 = some ((.next, fr), Z.set d (.dict (lJ D k v))) := by
 unfold fw
 rw [aG hc, aG ha, aG hb]
 unfold nt
 simp only [ho]
 rw [if_pos hl]
theorem xv {D : List (Int × PV)} {k : Int} {v : PV} (h : ∀ kv ∈ D, kv.1 ≠ k) : lJ D k v = D ++ [(k, v)] /\ gL (D ++ [(k, v)]) k = some v := by
 have hno : D.find? (λ kv => decide (kv.1 = k)) = none := List.find?_eq_none.mpr λ kv hkv q => h kv hkv (of_decide_eq_true q)
 constructor
 ·unfold lJ
  rw [if_neg]
  intro q
  refine aQ (List.any_eq_true.mp q) λ kv h1 h2 => h kv h1 (of_decide_eq_true h2)
 ·unfold gL
  rw [List.find?_append, hno, Option.none_or, List.find?_cons_of_pos (p := λ kv : Int × PV => decide (kv.1 = k)) (decide_eq_true rfl)]; rfl
theorem Cz {D : List (Int × PV)} {k : Int} {v : PV} {l : List (Int × PV)} (h : gL D k = some v) : gL (D ++ l) k = some v := by
 unfold gL at h |-
 refine aQ (Option.map_eq_some_iff.mp h) λ e' h4 h5 => ?_
 rw [List.find?_append, h4]
 exact congrArg some h5
end
def og : ag -> M (FR × ag) :=
  (ai (am aX (ak bW (ab 0)) (ap rY (ac (ab 2) (ac (ab 3) aj))))
  (ai (am bx (ak bW (ab 0)) (ap lC (ac (ab 2) (ac (ab 3) aj))))
  (ai (am cK (ab 0) (ab 1))
  (ai (fw (ak ca (ab 1)) (ak bP (ab 0)) (ab 0))
  (ai (bi (ap go (ac (ak cL (ab 1)) (ac (ak bW (ab 0)) aj))))
  aA)))))
theorem Bd : zZ = ai (bi (ap cF (ac (ab 0) aj))) og := rfl
theorem PS.dlen (P : PS Z g t) : ∃ D, Z.objs g.od = .dict D /\ (D.map (·.1)).Nodup /\ D.length <= g.N /\ (∀ k, k < g.N -> g.lv k = true -> gL D k = some (.ref (g.ov k))) /\ ∀ kv ∈ D, ∃ k : Nat, k < g.N /\ g.lv k = true /\ kv.1 = k := by
 refine gJ P.dict λ D h1 h2 h3 h4 h5 => ?_
 refine ri D h1 h2 ?_ h4 h5
 have hnn : (D.map (λ kv => kv.1.toNat)).Nodup := by
  rw [List.nodup_iff_pairwise_ne, List.pairwise_map] at h2 |-
  refine List.Pairwise.imp_of_mem (λ {a b} ha hb hab q => hab ?_) h2
  refine cj (h5 a ha) λ i _ _ hi => ?_
  refine cj (h5 b hb) λ j _ _ hj => ?_
  rw [hi, hj] at q |-
  simp at q
  rw [q]
 have := oO (R := List.range g.N) hnn λ x hx => by
  refine aQ (List.mem_map.mp hx) λ kv hkv qq2 => ?_; obtain rfl := qq2
  refine cj (h5 kv hkv) λ i hi _ e => ?_
  rw [e]; simpa using hi
 rw [List.length_map, List.length_range] at this
 exact this
theorem xQ (P : PS Z g t) (hN : g.N <= 6) {k : Nat} (hk : k < g.N) (hl : g.lv k = false) {b e : Int} (hbe : b <= e) :
  ∃ Z' t', og [some (.ref (g.ov k)), some (.ref g.hm), some (.int b), some (.int e)] Z = some ((.next, [some (.ref (g.ov k)), some (.ref g.hm), some (.int b), some (.int e)]), Z') /\ PS Z' (g.lay k b e) t' /\ nh g Z Z' := by
 have ho := P.over k hk
 rw [show g.homeOf k = .none from if_neg (by rw [hl]; decide)] at ho
 have hh := P.home
 refine GM (P.node k hk hl) λ b0 e0 fa ra l0 f0 r0 hnode => ?_
 refine gJ P.dlen λ D hD hDn hDl hD1 hD2 => ?_
 have hne : ∀ {j}, g.lv j = true -> j ≠ k := λ h q => by rw [q, hl] at h; cases h
 have hknot : ∀ kv ∈ D, kv.1 ≠ (k : Int) := λ kv hkv q => by
  exact cj (hD2 kv hkv) λ j _ h2 h3 => hne h2 (Int.ofNat.inj (h3.symm.trans q))
 have n1 : g.nd k ≠ g.ov k := bQ (P.tnd k hk) (P.tov k hk) (by decide)
 have n2 : g.nd k ≠ g.hm := bQ (P.tnd k hk) P.thm (by decide)
 have n3 : g.nd k ≠ g.od := bQ (P.tnd k hk) P.tod (by decide)
 have n4 : g.ov k ≠ g.hm := bQ (P.tov k hk) P.thm (by decide)
 have n5 : g.ov k ≠ g.od := bQ (P.tov k hk) P.tod (by decide)
 have n6 : g.hm ≠ g.od := bQ P.thm P.tod (by decide)
 have m1 := Ne.symm n1
 have m2 := Ne.symm n2
 have m3 := Ne.symm n3
 have m4 := Ne.symm n4
 have m5 := Ne.symm n5
 have m6 := Ne.symm n6
 generalize hσ1 : ((Z.set (g.nd k) (.inst 0 [.int k, .int b, .int e, fa, ra, .int l0, .int f0, .bool r0, .none, .none, .none])).set (g.ov k) (.inst 2 [.int k, .ref (g.nd k), .ref g.hm, .ref (g.pl k)])).set g.od (.dict (D ++ [((k : Int), .ref (g.ov k))])) = Z1; revert Z1; refine qQ ?_; intro Z1 hσ1
 have o1 : ∀ a, a ≠ g.nd k -> a ≠ g.ov k -> a ≠ g.od -> Z1.objs a = Z.objs a := λ a h1 h2 h3 => by rw [<- hσ1, aT, if_neg h3, aT, if_neg h2, aT, if_neg h1]
 have nx1 : Z1.next = Z.next := by rw [<- hσ1]; rfl
 have on1 : Z1.objs (g.nd k) = .inst 0 [.int k, .int b, .int e, fa, ra, .int l0, .int f0, .bool r0, .none, .none, .none] := by rw [<- hσ1, aT, if_neg n3, aT, if_neg n1, aT, if_pos rfl]
 have ov1 : Z1.objs (g.ov k) = .inst 2 [.int k, .ref (g.nd k), .ref g.hm, .ref (g.pl k)] := by rw [<- hσ1, aT, if_neg n5, aT, if_pos rfl]
 have od1 : Z1.objs g.od = .dict (D ++ [((k : Int), .ref (g.ov k))]) := by rw [<- hσ1]; exact if_pos rfl
 have hh1 : Z1.objs g.hm = .inst 3 [.ref g.tr, .ref g.od, .ref g.ru] := by rw [o1 _ m2 m4 n6]; exact hh
 have tnot : ∀ a ∈ g.tr :: t.ids, a ≠ g.nd k /\ a ≠ g.ov k /\ a ≠ g.od := by
  intro a ha
  rcases List.mem_cons.mp ha with q | q
  ·rw [q]
   exact ⟨(bQ P.ttr (P.tnd k hk) (by decide)), (bQ P.ttr (P.tov k hk) (by decide)), (bQ P.ttr P.tod (by decide))⟩
  ·refine cj (P.tids q) λ j h2 h3 qq3 => ?_; obtain rfl := qq3
   exact ⟨(λ z => by have := P.ndInj h2 hk z; rw [this, hl] at h3; cases h3), (bQ (P.tnd j h2) (P.tov k hk) (by decide)), (bQ (P.tnd j h2) P.tod (by decide))⟩
 have hT1 : jX Z1 g.tr t := by
  refine br P.tree.root λ cnt hc => ?_
  refine ⟨⟨cnt, ?_⟩, Sub.of (λ a ha => ?_) P.tree.sub, P.tree.nodup, λ a ha => by rw [nx1]; exact P.tree.lt a ha⟩
  ·have := tnot _ (List.mem_cons_self ..); rw [o1 _ this.1 this.2.1 this.2.2]; exact hc
  ·have := tnot a (List.mem_cons_of_mem _ ha); rw [o1 _ this.1 this.2.1 this.2.2]
 refine xe (Bj hT1 P.ub P.shape (P.room hN hk hl) (λ q => (tnot _ q).1 rfl) (by rw [nx1]; exact P.lnd k hk) on1 P.sorted) λ p Z2 t2 e1 e2 e3 e4 e5 e6 => ?_
 have hrun : og [some (.ref (g.ov k)), some (.ref g.hm), some (.int b), some (.int e)] Z = some ((.next, [some (.ref (g.ov k)), some (.ref g.hm), some (.int b), some (.int e)]), Z2) := by
  unfold og
  have bm : ap rY (ac (ab 2) (ac (ab 3) aj)) [some (.ref (g.ov k)), some (.ref g.hm), some (.int b), some (.int e)] Z = some (.int b, Z) := congrArg (λ z => some (PV.int z, Z)) (if_neg (Int.not_lt.mpr hbe))
  have bM : ∀ Z, ap lC (ac (ab 2) (ac (ab 3) aj)) [some (.ref (g.ov k)), some (.ref g.hm), some (.int b), some (.int e)] Z = some (.int e, Z) := λ Z => congrArg (λ z => some (PV.int z, Z)) (show (if e > b then e else b) = e by split <;> lia)
  refine av (cr bm (aB (aw rfl) ho rfl rfl) hnode rfl) (av (cr (bM _) (aB (aw rfl) ((ef m1).trans ho) rfl rfl) cy rfl) (av (cr (aw rfl) (aw rfl) ((ef m1).trans ((ef m1).trans ho)) rfl) ?_))
  rw [om]
  refine av (Z1 := Z1) ?_ (av (cv (vs := [.ref g.tr, .ref (g.nd k)]) (Z0 := Z1) (aI (aB (aw rfl) hh1 rfl rfl) (aI (aB (aw rfl) ov1 rfl rfl) bZ)) e1) rfl)
  rw [<- hσ1, <- (xv hknot).1]
  exact yO (aw rfl) (aB (aw rfl) ((ef m4).trans ((ef m2).trans hh)) rfl rfl) (aB (aw rfl) cy rfl rfl) ((ef m5).trans ((ef m3).trans hD)) (by lia)
 have oo : ∀ a, a < Z.next -> (g.tag a).1 ≠ 3 -> (g.tag a).1 ≠ 6 -> a ≠ g.ov k -> a ≠ g.od -> Z2.objs a = Z.objs a := λ a h1 h2 h3 h4 h5 => by
  have hnk : a ≠ g.nd k := λ z => h3 (by rw [z, P.tnd k hk])
  rw [e6.old a (by rw [nx1]; exact h1) (λ q => by
   rcases List.mem_cons.mp q with q | q
   ·exact hnk q
   ·exact P.far_not h2 h3 q), o1 a hnk h4 h5]
 have hle : Z.next <= Z2.next := by have := e6.next; rw [nx1] at this; exact this
 refine fj P.rules λ lp df hr => ?_
 have ov2 : Z2.objs (g.ov k) = .inst 2 [.int k, .ref (g.nd k), .ref g.hm, .ref (g.pl k)] := by
  rw [e6.old _ (by rw [nx1]; exact P.lov k hk) (λ q => by
   rcases List.mem_cons.mp q with q | q
   ·exact m1 q
   ·exact (tnot _ q).2.1 rfl)]; exact ov1
 have od2 : Z2.objs g.od = .dict (D ++ [((k : Int), .ref (g.ov k))]) := by
  rw [e6.old _ (by rw [nx1]; exact P.lod) (λ q => by
   rcases List.mem_cons.mp q with q | q
   ·exact m3 q
   ·exact (tnot _ q).2.2 rfl)]; exact od1
 refine ⟨Z2, t2, hrun, ⟨?_, ⟨lp, df, ?_⟩, e2, e5, e3, by rw [e4]; exact nY P.sorted, λ it => ?_, λ j hj hlj => ?_, ⟨_, od2, ?_, by rw [List.length_append, List.length_singleton]; lia, λ j hj hlj => ?_, λ kv hkv => ?_⟩, λ j hj => ?_, λ j hj => ?_, λ j hj hlj => ?_, P.thm, P.tru, P.ttr, P.tod, P.tov, P.tnd, P.tpl, Nat.lt_of_lt_of_le P.lhm hle, Nat.lt_of_lt_of_le P.lru hle, Nat.lt_of_lt_of_le P.lod hle, λ k hk => Nat.lt_of_lt_of_le (P.lov k hk) hle, λ k hk => Nat.lt_of_lt_of_le (P.lnd k hk) hle, λ k hk => Nat.lt_of_lt_of_le (P.lpl k hk) hle⟩, ⟨hle, λ a h1 h2 => ?_⟩⟩
 ·show Z2.objs g.hm = _
  rw [oo _ P.lhm (cw P.thm (by decide)) (cw P.thm (by decide)) m4 n6]; exact hh
 ·show Z2.objs g.ru = _
  rw [oo _ P.lru (cw P.tru (by decide)) (cw P.tru (by decide)) (bQ P.tru (P.tov k hk) (by decide)) (bQ P.tru P.tod (by decide))]; exact hr
 ·rw [e4, pR, P.items]
  refine ⟨λ q => q.elim (λ q => fk k hk (if_pos rfl) (q.trans Ah.symm)) λ q => cj q λ j h1 h2 h3 => fk j h1 ((pK (hne h2)).trans h2) (h3.trans (Ck (hne h2)).symm), λ q => cj q λ j h1 h2 h3 => ?_⟩
  by_cases q : j = k
  ·exact .inl (h3.trans (q ▸ Ah))
  ·exact .inr (fk j h1 ((pK q).symm.trans h2) (h3.trans (Ck q)))
 ·by_cases q : j = k
  ·rw [show (g.lay k b e).B j = b from if_pos q, show (g.lay k b e).E j = e from if_pos q]; exact hbe
  ·rw [EA q, Em q]
   exact P.be j hj ((pK q).symm.trans hlj)
 ·rw [List.map_append]
  refine List.nodup_append.mpr ⟨hDn, by simp, λ a ha c hc => ?_⟩
  have : c = (k : Int) := by simpa using hc
  rw [this]
  refine aQ (List.mem_map.mp ha) λ kv hkv qq4 => ?_; obtain rfl := qq4
  exact hknot kv hkv
 ·by_cases q : j = k
  ·rw [q]; exact (xv hknot).2
  ·exact Cz (hD1 j hj ((pK q).symm.trans hlj))
 ·rcases List.mem_append.mp hkv with q | q
  ·exact cj (hD2 kv q) λ j h1 h2 h3 => fk j h1 ((pK (hne h2)).trans h2) h3
  ·rw [List.mem_singleton.mp q]
   exact fk k hk (if_pos rfl) rfl
 ·show Z2.objs (g.ov j) = .inst 2 [.int j, .ref (g.nd j), if (if j = k then true else g.lv j) = true then .ref g.hm else .none, .ref (g.pl j)]
  by_cases q : j = k
  ·subst q
   rw [ov2, if_pos (if_pos rfl)]
  ·rw [if_neg q, oo _ (P.lov j hj) (cw (P.tov j hj) (by decide)) (cw (P.tov j hj) (by decide)) (λ z => q (P.ovInj hj hk z)) (bQ (P.tov j hj) P.tod (by decide))]
   exact P.over j hj
 ·show Z2.objs (g.pl j) = _
  rw [oo _ (P.lpl j hj) (cw (P.tpl j hj) (by decide)) (cw (P.tpl j hj) (by decide)) (bQ (P.tpl j hj) (P.tov k hk) (by decide)) (bQ (P.tpl j hj) P.tod (by decide))]
  exact P.plist j hj
 ·have hj' : j < g.N := hj
  have q : j ≠ k := λ q => by rw [show (g.lay k b e).lv j = true from if_pos q] at hlj; cases hlj
  have hlj' := (pK q).symm.trans hlj
  have hnn : g.nd j ≠ g.nd k := λ z => q (P.ndInj hj' hk z)
  have h1 : g.nd j ≠ g.ov k := bQ (P.tnd j hj') (P.tov k hk) (by decide)
  have h2 : g.nd j ≠ g.od := bQ (P.tnd j hj') P.tod (by decide)
  show sR j (Z2.objs (g.nd j))
  rw [e6.old _ (by rw [nx1]; exact P.lnd j hj') (λ z => by
   rcases List.mem_cons.mp z with z | z
   ·exact hnn z
   ·rcases List.mem_cons.mp z with z | z
    ·exact bQ (P.tnd j hj') P.ttr (by decide) z
    ·exact P.ndNot hj' hlj' z), o1 _ hnn h1 h2]
  exact P.node j hj' hlj'
 ·refine oo a h1 (by lia) (by lia) (λ z => ?_) (λ z => ?_)
  ·rw [z, P.tov k hk] at h2; exact absurd (show 10 <= 5 from h2) (by decide)
  ·rw [z, P.tod] at h2; exact absurd (show 10 <= 4 from h2) (by decide)
theorem wZ (P : PS Z g t) (hN : g.N <= 6) {k : Nat} (hk : k < g.N) {b e : Int} (hbe : b <= e) :
  ∃ Z' t', qd [.ref (g.ov k), .ref g.hm, .int b, .int e] Z = some (.none, Z') /\ PS Z' (g.lay k b e) t' /\ nh g Z Z' := by
 have hrun : ∀ Z1 Z2, cF [.ref (g.ov k)] Z = some (.none, Z1) -> og [some (.ref (g.ov k)), some (.ref g.hm), some (.int b), some (.int e)] Z1 = some ((.next, [some (.ref (g.ov k)), some (.ref g.hm), some (.int b), some (.int e)]), Z2) -> qd [.ref (g.ov k), .ref g.hm, .int b, .int e] Z = some (.none, Z2) := by
  intro Z1 Z2 h1 h2
  unfold qd bg
  show cb (zZ [some (.ref (g.ov k)), some (.ref g.hm), some (.int b), some (.int e)] Z) _ = _
  rw [Bd, av (cv (vs := [.ref (g.ov k)]) (Z0 := Z) rfl h1) h2]
  rfl
 cases hl : g.lv k with
 | false =>
  refine gX (xQ P hN hk hl hbe) λ Z' t' h1 h2 h3 => ?_
  exact kc Z' t' (hrun Z Z' (AP P hk hl) h1) h2 h3
 | true =>
  refine ed (mG P hk hl) λ Z1 t1 a1 a2 a3 _ => ?_
  refine gX (xQ a2 hN (k := k) hk (if_pos rfl) hbe) λ Z' t' h1 h2 h3 => ?_
  rw [Ee] at h2
  exact kc Z' t' (hrun Z1 Z' a1 h1) h2 (a3.trans ⟨h3.next, λ a h4 h5 => h3.old a h4 h5⟩)
end
end
section
section
variable {Z Z' : St} {g : G} {t t' : T}
theorem BD (P : PS Z g t) {k : Nat} (hk : k < g.N) (hl : g.lv k = true) : ∃ p Z' t' ws, dH [.ref (g.nd k)] Z = some (p, Z') /\ PS Z' g t' /\ nh g Z Z' /\
  Z'.objs (g.ov k) = .inst 2 [.int k, .ref (g.nd k), g.homeOf k, .ref (g.pl k)] /\ Z'.objs (g.nd k) = .inst 0 ws /\ ws[1]? = some (.int (g.B k)) /\ ws[2]? = some (.int (g.E k)) := by
 refine aQ (P.at_ hk hl) λ i h1 h2 => ?_
 refine GQ (Dl P.tree P.ub P.shape h1) λ p Z' t' e1 e2 e3 e4 e5 e6 q => ?_
 refine ed q λ it ws e7 e8 e9 e10 => ?_
 cases ej (h2.symm.trans e7)
 exact td p Z' t' ws e1 (P.turn e6 e2 e5 e3 e4) (P.unt e6) ((e6.old _ (P.lov k hk) (P.far_not (cw (P.tov k hk) (by decide)) (cw (P.tov k hk) (by decide)))).trans (P.over k hk)) e8 e9 e10
theorem rW (P : PS Z g t) {k : Nat} (hk : k < g.N) (hl : g.lv k = true) : ∃ Z' t', cN [.ref (g.ov k)] Z = some (.int (g.B k), Z') /\ PS Z' g t' /\ nh g Z Z' :=
 uH (BD P hk hl) λ p Z' t' ws e1 e2 e3 e4 e5 e6 e7 => kc Z' t' (kF rfl (av (cv (vs := [.ref (g.nd k)]) (Z0 := Z) (aI (aB (aw rfl) (P.over k hk) rfl rfl) bZ) e1) (bv (mD (aB (aB (aw rfl) e4 rfl rfl) e5 rfl e6))))) e2 e3
theorem xH (P : PS Z g t) {k : Nat} (hk : k < g.N) (hl : g.lv k = true) : ∃ Z' t', dc [.ref (g.ov k)] Z = some (.int (g.E k), Z') /\ PS Z' g t' /\ nh g Z Z' :=
 uH (BD P hk hl) λ p Z' t' ws e1 e2 e3 e4 e5 e6 e7 => kc Z' t' (kF rfl (av (cv (vs := [.ref (g.nd k)]) (Z0 := Z) (aI (aB (aw rfl) (P.over k hk) rfl rfl) bZ) e1) (bv (mD (aB (aB (aw rfl) e4 rfl rfl) e5 rfl e7))))) e2 e3
theorem PS.fleet (P : PS Z g t) {k : Nat} (hk : k < g.N) : cA [.ref g.ru, .ref (g.ov k)] Z = some (.bool (g.fl k), Z) := by
 refine fj P.rules λ lp df hr => ?_
 exact zi hr (P.over k hk) (P.plist k hk)
noncomputable def G.gone (g : G) (k : Nat) (c : Bool) : G := { g with lv := λ j => if j = k then g.lv j && !c else g.lv j }
theorem pQ (g : G) (k : Nat) : g.gone k true = g.out k := by
 unfold G.gone G.out
 congr 1
 funext j
 split
 ·simp
 ·rfl
theorem nw (g : G) (k : Nat) : g.gone k false = g := by
 unfold G.gone
 have : (λ j => if j = k then g.lv j && !false else g.lv j) = g.lv := by
  funext j; split <;> simp
 rw [this]
theorem yS (P : PS Z g t) (hN : g.N <= 6) {k : Nat} (hk : k < g.N) {b e : Int} (hbe : b <= e) :
  ∃ Z' t', dK [.ref (g.ov k), .ref g.hm, .int b, .int e] Z = some (.none, Z') /\ PS Z' ((g.lay k b e).gone k (decide (b = e) && g.fl k)) t' /\ nh g Z Z' := by
 refine gX (wZ P hN hk hbe) λ Z1 t1 h1 h2 h3 => ?_
 have hh := h2.home
 have hf := h2.fleet (k := k) hk
 have hc1 : bi (ap qd (ac (ab 0) (ac (ab 1) (ac (ab 2) (ac (ab 3) aj))))) [some (.ref (g.ov k)), some (.ref g.hm), some (.int b), some (.int e)] Z = some ((.next, [some (.ref (g.ov k)), some (.ref g.hm), some (.int b), some (.int e)]), Z1) := cv (vs := [.ref (g.ov k), .ref g.hm, .int b, .int e]) (Z0 := Z) rfl h1
 have hcall : ap cA (ac (ak dy (ab 1)) (ac (ab 0) aj)) [some (.ref (g.ov k)), some (.ref g.hm), some (.int b), some (.int e)] Z1 = some (.bool (g.fl k), Z1) :=
  bo (vs := [.ref g.ru, .ref (g.ov k)]) (Z0 := Z1) (by
   have hh' : Z1.objs g.hm = .inst 3 [.ref g.tr, .ref g.od, .ref g.ru] := hh
   simp only [ak, ab, ei, ac, aj, dU, dy, List.lookup, List.getElem?_cons_zero, List.getElem?_cons_succ, beq_self_eq_true, hh']) hf
 have ht : (c9 (aY (ab 2) (az fq (ab 3))) (c9 (bz (ap cA (ac (ak dy (ab 1)) (ac (ab 0) aj)))) cR)) [some (.ref (g.ov k)), some (.ref g.hm), some (.int b), some (.int e)] Z1 = some (decide (b = e) && g.fl k, Z1) := by
  have ht1 : aY (ab 2) (az fq (ab 3)) [some (.ref (g.ov k)), some (.ref g.hm), some (.int b), some (.int e)] Z1 = some (decide (b = e), Z1) := by
   show some (b == e, Z1) = _
   rfl
  unfold c9 bz
  rw [aG ht1, aG (aG hcall)]
  cases decide (b = e) <;> cases g.fl k <;> rfl
 have hrun : ∀ Z2, (cX (c9 (aY (ab 2) (az fq (ab 3))) (c9 (bz (ap cA (ac (ak dy (ab 1)) (ac (ab 0) aj)))) cR)) (ai (bi (ap cF (ac (ab 0) aj))) aA) aA) [some (.ref (g.ov k)), some (.ref g.hm), some (.int b), some (.int e)] Z1 = some ((.next, [some (.ref (g.ov k)), some (.ref g.hm), some (.int b), some (.int e)]), Z2) -> dK [.ref (g.ov k), .ref g.hm, .int b, .int e] Z = some (.none, Z2) := by
  intro Z2 h
  unfold dK bg
  show cb (gi [some (.ref (g.ov k)), some (.ref g.hm), some (.int b), some (.int e)] Z) _ = _
  unfold gi
  rw [av hc1 (av h rfl)]
  rfl
 cases hb : (decide (b = e) && g.fl k) with
 | false =>
  rw [nw]
  exact kc Z1 t1 (hrun Z1 (by unfold cX; rw [ht, hb]; rfl)) h2 h3
 | true =>
  rw [pQ]
  refine ed (mG h2 (k := k) hk (if_pos rfl)) λ Z2 t2 k1 k2 k3 _ => ?_
  have k1' : cF [.ref (g.ov k)] Z1 = some (.none, Z2) := k1
  exact kc Z2 t2 (hrun Z2 (by unfold cX; rw [ht, hb]; exact av (cv (vs := [.ref (g.ov k)]) (Z0 := Z1) rfl k1') rfl)) k2 (h3.trans ⟨k3.next, λ a h4 h5 => k3.old a h4 h5⟩)
noncomputable def G.born (g : G) (n : Nat) : G where
 hm := g.hm
 ru := g.ru
 tr := g.tr
 od := g.od
 ov := λ j => if j = g.N then n else g.ov j
 nd := λ j => if j = g.N then n + 1 else g.nd j
 pl := λ j => if j = g.N then n + 2 else g.pl j
 tag := λ a => if a = n then (5, g.N) else if a = n + 1 then (6, g.N) else if a = n + 2 then (7, g.N) else g.tag a
 N := g.N + 1
 lv := λ j => if j = g.N then false else g.lv j
 fl := λ j => if j = g.N then false else g.fl j
 B := g.B
 E := g.E
theorem Bp {Z : St} {o o' : ee} : (Z.push o).set Z.next o' = Z.push o' := by
 unfold St.push St.set
 congr 1
 funext j
 dsimp only
 split <;> rfl
theorem yf {Z : St} {c : Nat} {vs ws : List PV} {v : PV} {fr : ag} {tbl : List (Nat × Nat)} {b : ag -> M PV} (ha : fr[0]? = some (some (.ref Z.next))) (hb : b fr (Z.push (.inst c vs)) = some (v, Z.push (.inst c vs))) (hr : CY tbl c vs v = some (.inst c ws)) :
  am tbl (ab 0) b fr (Z.push (.inst c vs)) = some ((.next, fr), Z.push (.inst c ws)) := by
 rw [cr hb (aw ha) (if_pos rfl) hr, Bp]
theorem eL {Z : St} {c : Nat} {vs ws : List PV} {v : PV} {fr : ag} {tbl : List (Nat × Nat)} {b : ag -> M PV} {t : ag -> M (FR × ag)} {r} (ha : fr[0]? = some (some (.ref Z.next))) (hb : b fr (Z.push (.inst c vs)) = some (v, Z.push (.inst c vs))) (hr : CY tbl c vs v = some (.inst c ws)) (k : t fr (Z.push (.inst c ws)) = r) :
  ai (am tbl (ab 0) b) t fr (Z.push (.inst c vs)) = r := av (yf ha hb hr) k
theorem D1 {c : Nat} {F : List PV -> M PV} {vs : List PV} {Z Z1 : St} (h : F (.ref Z.next :: vs) (Z.push (.inst c [])) = some (.none, Z1)) : kU c F vs Z = some (.ref Z.next, Z1) := aG h
theorem BL {Z : St} {n : Int} {fa ra : PV} : gc [.int n, .int 0, .int 0, fa, ra] Z = some (.ref Z.next, Z.push (.inst 0 [.int n, .int 0, .int 0, fa, ra, .int 0, .int 0, .bool false, .none, .none, .none])) :=
 D1 (Ak rfl (eL rfl rfl rfl (eL rfl rfl rfl (eL rfl rfl rfl (eL rfl rfl rfl (eL rfl rfl rfl (eL rfl rfl rfl (eL rfl rfl rfl (eL rfl rfl rfl (eL rfl rfl rfl (eL rfl rfl rfl (eL rfl rfl rfl cG))))))))))))
theorem Cq {Z : St} {n : Int} {fa ra : PV} : ∃ Z', kA [.int n, fa, ra] Z = some (.ref Z.next, Z') /\ Z'.next = Z.next + 3 /\ (∀ a, a < Z.next -> Z'.objs a = Z.objs a) /\ Z'.objs Z.next = .inst 2 [.int n, .ref (Z.next + 1), .none, .ref (Z.next + 2)] /\
  Z'.objs (Z.next + 1) = .inst 0 [.int n, .int 0, .int 0, fa, ra, .int 0, .int 0, .bool false, .none, .none, .none] /\ Z'.objs (Z.next + 2) = .list [] := by
 have ho : ∀ o : ee, (Z.push o).objs Z.next = o := λ o => if_pos rfl
 generalize hσ1 : Z.push (.inst 2 [.int n]) = Z1
 have n1 : Z1.next = Z.next + 1 := by rw [<- hσ1]; rfl
 have hc : ap gc (ac (ab 1) (ac (aS 0) (ac (aS 0) (ac (ab 2) (ac (ab 3) aj))))) [some (.ref Z.next), some (.int n), some fa, some ra] Z1 = some (.ref (Z.next + 1), Z1.push (.inst 0 [.int n, .int 0, .int 0, fa, ra, .int 0, .int 0, .bool false, .none, .none, .none])) := by
  rw [bo (vs := [.int n, .int 0, .int 0, fa, ra]) (Z0 := Z1) rfl BL, n1]
 generalize hσ2 : Z1.push (.inst 0 [.int n, .int 0, .int 0, fa, ra, .int 0, .int 0, .bool false, .none, .none, .none]) = Z2 at hc
 have n2 : Z2.next = Z.next + 2 := by rw [<- hσ2]; show Z1.next + 1 = _; rw [n1]
 have o2 : Z2.objs Z.next = .inst 2 [.int n] := by
  rw [<- hσ2]
  show (if Z.next = Z1.next then _ else Z1.objs Z.next) = _
  rw [if_neg (by rw [n1]; exact Nat.ne_of_lt (Nat.lt_succ_self _)), <- hσ1]; exact ho _
 generalize hσ3 : (Z2.set Z.next (.inst 2 [.int n, .ref (Z.next + 1)])).set Z.next (.inst 2 [.int n, .ref (Z.next + 1), .none]) = Z3
 have n3 : Z3.next = Z.next + 2 := by rw [<- hσ3]; exact n2
 have o3 : Z3.objs Z.next = .inst 2 [.int n, .ref (Z.next + 1), .none] := by rw [<- hσ3]; exact if_pos rfl
 generalize hσ4 : Z3.push (.list []) = Z4
 have o4 : Z4.objs Z.next = .inst 2 [.int n, .ref (Z.next + 1), .none] := by
  rw [<- hσ4]
  show (if Z.next = Z3.next then _ else Z3.objs Z.next) = _
  rw [if_neg (by rw [n3]; lia)]; exact o3
 have n4 : Z4.next = Z.next + 3 := by rw [<- hσ4]; show Z3.next + 1 = _; rw [n3]
 have keep : ∀ a, a ≠ Z.next -> a ≠ Z.next + 1 -> a ≠ Z.next + 2 -> Z4.objs a = Z.objs a := λ a h1 h2 h3 => by
  rw [<- hσ4]
  show (if a = Z3.next then _ else Z3.objs a) = _
  rw [if_neg (by rw [n3]; exact h3), <- hσ3, aT, if_neg h1, aT, if_neg h1, <- hσ2]
  show (if a = Z1.next then _ else Z1.objs a) = _
  rw [if_neg (by rw [n1]; exact h2), <- hσ1]
  exact if_neg h1
 refine Db (Z4.set Z.next (.inst 2 [.int n, .ref (Z.next + 1), .none, .ref (Z.next + 2)])) ?_ n4 (λ a ha => ?_) (if_pos rfl) ?_ ?_
 ·have hI : eW [.ref Z.next, .int n, fa, ra] (Z.push (.inst 2 [])) = some (.none, Z4.set Z.next (.inst 2 [.int n, .ref (Z.next + 1), .none, .ref (Z.next + 2)])) := by
   unfold eW bg
   show cb (eS [some (.ref Z.next), some (.int n), some fa, some ra] (Z.push (.inst 2 []))) _ = _
   unfold eS
   have s1 : am bP (ab 0) (ab 1) [some (.ref Z.next), some (.int n), some fa, some ra] (Z.push (.inst 2 [])) = some ((.next, [some (.ref Z.next), some (.int n), some fa, some ra]), Z1) := hσ1 ▸ yf rfl rfl rfl
   have s2 : am bW (ab 0) (ap gc (ac (ab 1) (ac (aS 0) (ac (aS 0) (ac (ab 2) (ac (ab 3) aj)))))) [some (.ref Z.next), some (.int n), some fa, some ra] Z1 = some ((.next, [some (.ref Z.next), some (.int n), some fa, some ra]), Z2.set Z.next (.inst 2 [.int n, .ref (Z.next + 1)])) := cr hc (aw rfl) o2 rfl
   have s3 : am cK (ab 0) bq [some (.ref Z.next), some (.int n), some fa, some ra] (Z2.set Z.next (.inst 2 [.int n, .ref (Z.next + 1)])) = some ((.next, [some (.ref Z.next), some (.int n), some fa, some ra]), Z3) := hσ3 ▸ cr eH (aw rfl) cy rfl
   have l4 : cQ aj [some (.ref Z.next), some (.int n), some fa, some ra] Z3 = some (.ref (Z.next + 2), Z4) := by rw [<- n3, <- hσ4]; exact ji bZ (Nat.zero_le _)
   have s4 : am da (ab 0) (cQ aj) [some (.ref Z.next), some (.int n), some fa, some ra] Z3 = some ((.next, [some (.ref Z.next), some (.int n), some fa, some ra]), Z4.set Z.next (.inst 2 [.int n, .ref (Z.next + 1), .none, .ref (Z.next + 2)])) := cr l4 (aw rfl) o4 rfl
   rw [av s1 (av s2 (av s3 (av s4 rfl)))]
   rfl
  unfold kA kU
  rw [aG hI]
 ·rw [aT, if_neg (by exact Nat.ne_of_lt (by assumption))]; exact keep a (by exact Nat.ne_of_lt (by assumption)) (by lia) (by lia)
 ·rw [aT, if_neg (by exact Nat.ne_of_gt (Nat.lt_succ_self _)), <- hσ4]
  show (if Z.next + 1 = Z3.next then _ else Z3.objs (Z.next + 1)) = _
  rw [if_neg (by rw [n3]; exact Nat.ne_of_lt (Nat.lt_succ_self _)), <- hσ3, aT, if_neg (by exact Nat.ne_of_gt (Nat.lt_succ_self _)), aT, if_neg (by exact Nat.ne_of_gt (Nat.lt_succ_self _)), <- hσ2]
  show (if Z.next + 1 = Z1.next then _ else _) = _
  rw [if_pos (by rw [n1])]
 ·rw [aT, if_neg (by lia), <- hσ4]
  show (if Z.next + 2 = Z3.next then _ else Z3.objs (Z.next + 2)) = _
  rw [if_pos (by rw [n3])]
end
end
section
section
variable {Z Z' : St} {g : G} {t t' : T}
theorem AZ (P : PS Z g t) (h1 : Z'.next = Z.next + 3) (h2 : ∀ a, a < Z.next -> Z'.objs a = Z.objs a) (h3 : Z'.objs Z.next = .inst 2 [.int g.N, .ref (Z.next + 1), .none, .ref (Z.next + 2)]) {fa ra : PV}
  (h4 : Z'.objs (Z.next + 1) = .inst 0 [.int g.N, .int 0, .int 0, fa, ra, .int 0, .int 0, .bool false, .none, .none, .none]) (h5 : Z'.objs (Z.next + 2) = .list []) : PS Z' (g.born Z.next) t := by
 refine fj P.rules λ lp df hr => ?_
 refine gJ P.dict λ D hD hDn hDl hD1 hD2 => ?_
 have ntag : ∀ a, a < Z.next -> (g.born Z.next).tag a = g.tag a := λ a ha => by
  show (if a = Z.next then _ else if a = Z.next + 1 then _ else if a = Z.next + 2 then _ else g.tag a) = _
  rw [if_neg (by exact Nat.ne_of_lt (by assumption)), if_neg (by lia), if_neg (by lia)]
 have hov : ∀ j, j ≠ g.N -> (g.born Z.next).ov j = g.ov j := λ j h => if_neg h
 have hnd : ∀ j, j ≠ g.N -> (g.born Z.next).nd j = g.nd j := λ j h => if_neg h
 have hpl : ∀ j, j ≠ g.N -> (g.born Z.next).pl j = g.pl j := λ j h => if_neg h
 have hlv : ∀ j, j ≠ g.N -> (g.born Z.next).lv j = g.lv j := λ j h => if_neg h
 have hfl : ∀ j, j ≠ g.N -> (g.born Z.next).fl j = g.fl j := λ j h => if_neg h
 have hov' : (g.born Z.next).ov g.N = Z.next := if_pos rfl
 have hnd' : (g.born Z.next).nd g.N = Z.next + 1 := if_pos rfl
 have hpl' : (g.born Z.next).pl g.N = Z.next + 2 := if_pos rfl
 have hlv' : (g.born Z.next).lv g.N = false := if_pos rfl
 have hfl' : (g.born Z.next).fl g.N = false := if_pos rfl
 have split : ∀ j, j < (g.born Z.next).N -> j = g.N \/ (j ≠ g.N /\ j < g.N) := λ j hj => by
  have : j < g.N + 1 := hj
  lia
 have trlt : g.tr < Z.next := P.tree.lt _ (List.mem_cons_self ..)
 refine ⟨(h2 _ P.lhm).trans P.home, ⟨lp, df, (h2 _ P.lru).trans hr⟩, ⟨?_, Sub.of (λ a ha => h2 a (P.tree.lt a (List.mem_cons_of_mem _ ha))) P.tree.sub, P.tree.nodup, λ a ha => by rw [h1]; have := P.tree.lt a ha; exact Nat.lt_add_right _ (by assumption)⟩, P.ub, P.shape, P.sorted, λ it => ?_, λ j hj hl => ?_, ⟨D, (h2 _ P.lod).trans hD, hDn, hDl, λ j hj hl => ?_, λ kv hkv => ?_⟩, λ j hj => ?_, λ j hj => ?_, λ j hj hl => ?_, ?_, ?_, ?_, ?_, λ j hj => ?_, λ j hj => ?_, λ j hj => ?_, ?_, ?_, ?_, λ j hj => ?_, λ j hj => ?_, λ j hj => ?_⟩
 ·refine br P.tree.root λ cnt hc => ?_
  exact ⟨cnt, (h2 _ trlt).trans hc⟩
 ·rw [P.items]
  constructor
  ·intro qq1; refine cj qq1 λ j k1 k2 qq2 => ?_; obtain rfl := qq2
   have hj : j ≠ g.N := by exact Nat.ne_of_lt (by assumption)
   exact ⟨j, by show j < g.N + 1; exact Nat.lt_succ_of_lt (by assumption), (hlv j hj).trans k2, by unfold G.it; rw [hnd j hj]; rfl⟩
  ·intro qq3; refine cj qq3 λ j k1 k2 qq4 => ?_; obtain rfl := qq4
   rcases split j k1 with rfl | ⟨hj, hj2⟩
   ·rw [hlv'] at k2; cases k2
   ·exact ⟨j, hj2, (hlv j hj).symm.trans k2, by unfold G.it; rw [hnd j hj]; rfl⟩
 ·rcases split j hj with rfl | ⟨hj, hj2⟩
  ·rw [hlv'] at hl; cases hl
  ·exact P.be j hj2 ((hlv j hj).symm.trans hl)
 ·rcases split j hj with rfl | ⟨hj, hj2⟩
  ·rw [hlv'] at hl; cases hl
  ·rw [hov j hj]; exact hD1 j hj2 ((hlv j hj).symm.trans hl)
 ·refine cj (hD2 kv hkv) λ j k1 k2 k3 => ?_
  exact ⟨j, by show j < g.N + 1; exact Nat.lt_succ_of_lt (by assumption), (hlv j (by exact Nat.ne_of_lt (by assumption))).trans k2, k3⟩
 ·rcases split j hj with rfl | ⟨hj, hj2⟩
  ·unfold G.homeOf
   rw [hov', hnd', hpl', hlv']; exact h3
  ·unfold G.homeOf
   rw [hov j hj, hnd j hj, hpl j hj, hlv j hj, h2 _ (P.lov j hj2)]; exact P.over j hj2
 ·rcases split j hj with rfl | ⟨hj, hj2⟩
  ·rw [hpl', hfl']; exact h5
  ·rw [hpl j hj, hfl j hj, h2 _ (P.lpl j hj2)]; exact P.plist j hj2
 ·rcases split j hj with rfl | ⟨hj, hj2⟩
  ·rw [hnd', h4]; exact ⟨0, 0, fa, ra, 0, 0, false, rfl⟩
  ·rw [hnd j hj, h2 _ (P.lnd j hj2)]; exact P.node j hj2 ((hlv j hj).symm.trans hl)
 ·exact (ntag _ P.lhm).trans P.thm
 ·exact (ntag _ P.lru).trans P.tru
 ·exact (ntag _ trlt).trans P.ttr
 ·exact (ntag _ P.lod).trans P.tod
 ·rcases split j hj with rfl | ⟨hj, hj2⟩
  ·rw [hov']; exact if_pos rfl
  ·rw [hov j hj, ntag _ (P.lov j hj2)]; exact P.tov j hj2
 ·rcases split j hj with rfl | ⟨hj, hj2⟩
  ·rw [hnd']; exact (if_neg (by exact Nat.ne_of_gt (Nat.lt_succ_self _))).trans (if_pos rfl)
  ·rw [hnd j hj, ntag _ (P.lnd j hj2)]; exact P.tnd j hj2
 ·rcases split j hj with rfl | ⟨hj, hj2⟩
  ·rw [hpl']; exact (if_neg (by lia)).trans ((if_neg (by exact Nat.ne_of_gt (Nat.lt_succ_self _))).trans (if_pos rfl))
  ·rw [hpl j hj, ntag _ (P.lpl j hj2)]; exact P.tpl j hj2
 ·show g.hm < _; rw [h1]; have := P.lhm; exact Nat.lt_add_right _ (by assumption)
 ·show g.ru < _; rw [h1]; have := P.lru; exact Nat.lt_add_right _ (by assumption)
 ·show g.od < _; rw [h1]; have := P.lod; exact Nat.lt_add_right _ (by assumption)
 ·rcases split j hj with rfl | ⟨hj, hj2⟩
  ·rw [hov', h1]; lia
  ·rw [hov j hj, h1]; have := P.lov j hj2; exact Nat.lt_add_right _ (by assumption)
 ·rcases split j hj with rfl | ⟨hj, hj2⟩
  ·rw [hnd', h1]; exact Nat.le_succ _
  ·rw [hnd j hj, h1]; have := P.lnd j hj2; exact Nat.lt_add_right _ (by assumption)
 ·rcases split j hj with rfl | ⟨hj, hj2⟩
  ·rw [hpl', h1]; exact Nat.le_refl _
  ·rw [hpl j hj, h1]; have := P.lpl j hj2; exact Nat.lt_add_right _ (by assumption)
def G.ext (g g' : G) (n : Nat) : Prop := ∀ a, a < n -> g'.tag a = g.tag a
theorem A6 (P : PS Z g t) (hN : g.N + 1 <= 6) {b e : Int} {fa ra : PV} (hbe : b <= e) :
  ∃ Z' t', eI [.ref g.hm, .int g.N, .int b, .int e, fa, ra] Z = some (.ref Z.next, Z') /\ PS Z' ((g.born Z.next).lay g.N b e) t' /\ nh g Z Z' := by
 refine uL (Cq (Z := Z) (n := g.N) (fa := fa) (ra := ra)) λ Z1 c1 c2 c3 c4 c5 c6 => ?_
 have P1 := AZ P c2 c3 c4 c5 c6
 refine gX (wZ P1 hN (k := g.N) (by show g.N < g.N + 1; exact Nat.le_refl _) hbe) λ Z2 t2 l1 l2 l3 => ?_
 have hov' : (g.born Z.next).ov g.N = Z.next := if_pos rfl
 rw [hov'] at l1
 refine kc Z2 t2 ?_ l2 ⟨by have := l3.next; rw [c2] at this; lia, λ a h1 h2 => ?_⟩
 ·have s1 : aF 6 (ap kA (ac (ab 1) (ac (ab 4) (ac (ab 5) aj)))) [some (.ref g.hm), some (.int g.N), some (.int b), some (.int e), some fa, some ra, none] Z = some ((.next, [some (.ref g.hm), some (.int g.N), some (.int b), some (.int e), some fa, some ra, some (.ref Z.next)]), Z1) := by
   unfold aF
   rw [aG (bo (vs := [.int g.N, fa, ra]) (Z0 := Z) rfl c1)]
   rfl
  exact kF rfl (aD s1 (av (cv (vs := [.ref Z.next, .ref g.hm, .int b, .int e]) (Z0 := Z1) rfl l1) (bv (v := .ref Z.next) (fr1 := [some (.ref g.hm), some (.int g.N), some (.int b), some (.int e), some fa, some ra, some (.ref Z.next)]) (Z1 := Z2) rfl)))
 ·have ntag : (g.born Z.next).tag a = g.tag a := by
   show (if a = Z.next then _ else if a = Z.next + 1 then _ else if a = Z.next + 2 then _ else g.tag a) = _
   rw [if_neg (by exact Nat.ne_of_lt (by assumption)), if_neg (by lia), if_neg (by lia)]
  rw [l3.old a (by rw [c2]; exact Nat.lt_add_right _ (by assumption)) (by rw [ntag]; exact h2), c3 a h1]
noncomputable def G.mark (g : G) (k n : Nat) : G where
 hm := g.hm
 ru := g.ru
 tr := g.tr
 od := g.od
 ov := g.ov
 nd := g.nd
 pl := λ j => if j = k then n else g.pl j
 tag := λ a => if a = n then (7, k) else g.tag a
 N := g.N
 lv := g.lv
 fl := λ j => if j = k then true else g.fl j
 B := g.B
 E := g.E
theorem AE (P : PS Z g t) {k n : Nat} (hk : k < g.N) (hn : Z.next <= n) (hn' : n < Z'.next) (h2 : ∀ a, a < Z.next -> a ≠ g.ov k -> Z'.objs a = Z.objs a) (h3 : Z'.objs (g.ov k) = .inst 2 [.int k, .ref (g.nd k), g.homeOf k, .ref n]) (h4 : Z'.objs n = .list (Bc true)) : PS Z' (g.mark k n) t := by
 refine fj P.rules λ lp df hr => ?_
 refine gJ P.dict λ D hD hDn hDl hD1 hD2 => ?_
 have hle : Z.next <= Z'.next := by exact Nat.le_trans (by assumption) (Nat.le_of_lt (by assumption))
 have ntag : ∀ a, a < Z.next -> (g.mark k n).tag a = g.tag a := λ a ha => if_neg (by exact Nat.ne_of_lt (Nat.lt_of_lt_of_le (by assumption) (by assumption)))
 have trlt : g.tr < Z.next := P.tree.lt _ (List.mem_cons_self ..)
 have hh : g.hm ≠ g.ov k := bQ P.thm (P.tov k hk) (by decide)
 have hu : g.ru ≠ g.ov k := bQ P.tru (P.tov k hk) (by decide)
 have hd : g.od ≠ g.ov k := bQ P.tod (P.tov k hk) (by decide)
 have ht : g.tr ≠ g.ov k := bQ P.ttr (P.tov k hk) (by decide)
 have hnd : ∀ j, j < g.N -> g.nd j ≠ g.ov k := λ j hj z => by have := P.tnd j hj; rw [z, P.tov k hk] at this; cases this
 have hpl : ∀ j, j < g.N -> g.pl j ≠ g.ov k := λ j hj z => by have := P.tpl j hj; rw [z, P.tov k hk] at this; cases this
 refine ⟨(h2 _ P.lhm hh).trans P.home, ⟨lp, df, (h2 _ P.lru hu).trans hr⟩, ⟨?_, Sub.of (λ a ha => ?_) P.tree.sub, P.tree.nodup, λ a ha => Nat.lt_of_lt_of_le (P.tree.lt a ha) hle⟩, P.ub, P.shape, P.sorted, P.items, P.be, ⟨D, (h2 _ P.lod hd).trans hD, hDn, hDl, hD1, hD2⟩, λ j hj => ?_, λ j hj => ?_, λ j hj hl => ?_, (ntag _ P.lhm).trans P.thm, (ntag _ P.lru).trans P.tru, (ntag _ trlt).trans P.ttr, (ntag _ P.lod).trans P.tod, λ j hj => (ntag _ (P.lov j hj)).trans (P.tov j hj), λ j hj => (ntag _ (P.lnd j hj)).trans (P.tnd j hj), λ j hj => ?_, Nat.lt_of_lt_of_le P.lhm hle, Nat.lt_of_lt_of_le P.lru hle, Nat.lt_of_lt_of_le P.lod hle, λ k hk => Nat.lt_of_lt_of_le (P.lov k hk) hle, λ k hk => Nat.lt_of_lt_of_le (P.lnd k hk) hle, λ j hj => ?_⟩
 ·refine br P.tree.root λ cnt hc => ?_
  exact ⟨cnt, (h2 _ trlt ht).trans hc⟩
 ·refine cj (P.tids ha) λ j k1 _ qq1 => ?_; obtain rfl := qq1
  exact h2 _ (P.lnd j k1) (hnd j k1)
 ·show Z'.objs (g.ov j) = .inst 2 [.int j, .ref (g.nd j), g.homeOf j, .ref (if j = k then n else g.pl j)]
  by_cases q : j = k
  ·subst q; rw [if_pos rfl]; exact h3
  ·rw [if_neg q, h2 _ (P.lov j hj) (λ z => by have := P.tov j hj; rw [z, P.tov k hk] at this; exact q (congrArg Prod.snd this).symm)]; exact P.over j hj
 ·show Z'.objs (if j = k then n else g.pl j) = .list (Bc (if j = k then true else g.fl j))
  by_cases q : j = k
  ·rw [if_pos q, if_pos q]; exact h4
  ·rw [if_neg q, if_neg q, h2 _ (P.lpl j hj) (hpl j hj)]; exact P.plist j hj
 ·show sR j (Z'.objs (g.nd j))
  rw [h2 _ (P.lnd j hj) (hnd j hj)]; exact P.node j hj hl
 ·show (if (if j = k then n else g.pl j) = n then (7, k) else g.tag (if j = k then n else g.pl j)) = (7, j)
  by_cases q : j = k
  ·rw [if_pos q, if_pos rfl, q]
  ·have := P.lpl j hj
   rw [if_neg q, if_neg (by exact Nat.ne_of_lt (Nat.lt_of_lt_of_le (by assumption) (by assumption)))]; exact P.tpl j hj
 ·show (if j = k then n else g.pl j) < _
  by_cases q : j = k
  ·rw [if_pos q]; exact hn'
  ·rw [if_neg q]; exact Nat.lt_of_lt_of_le (P.lpl j hj) hle
theorem AK (P : PS Z g t) {k : Nat} (hk : k < g.N) (hl : g.lv k = true) (hf : g.fl k = false) :
  ∃ p Z' t' n, ew [.ref g.ru, .ref (g.ov k), .int 103, .bool true] Z = some (p, Z') /\ PS Z' ((g.mark k n).gone k (decide (g.B k = g.E k))) t' /\ nh g Z Z' /\ Z.next <= n := by
 have ho := P.over k hk
 have hp0 := P.plist k hk
 rw [hf] at hp0
 have hp : Z.objs (g.pl k) = .list [] := hp0
 refine fj P.rules λ lp df hr => ?_
 have hhome : g.homeOf k = .ref g.hm := if_pos hl
 have hhp : gV [.ref (g.pl k), .int 103, .bool true] Z = some (.bool false, Z) := by
  have s1 : aF 3 (ap cP (ac (ab 0) (ac (ab 1) aj))) [some (.ref (g.pl k)), some (.int 103), some (.bool true), none] Z = some ((.next, [some (.ref (g.pl k)), some (.int 103), some (.bool true), some (.int (-1))]), Z) := by
   unfold aF
   rw [aG (bo (vs := [.ref (g.pl k), .int 103]) (Z0 := Z) rfl (rz hp))]
   rfl
  exact kF rfl (aD s1 (bv (v := .bool false) (fr1 := [some (.ref (g.pl k)), some (.int 103), some (.bool true), some (.int (-1))]) (Z1 := Z) rfl))
 generalize hσ1 : (Z.push (.list [.tup [.int 103, .bool true]])).push (.list [.tup [.int 103, .bool true]]) = Z1; revert Z1; refine qQ ?_; intro Z1 hσ1
 have n1 : Z1.next = Z.next + 2 := by rw [<- hσ1]; rfl
 have o1 : ∀ a, a < Z.next -> Z1.objs a = Z.objs a := λ a ha => by
  rw [<- hσ1]
  show (if a = Z.next + 1 then _ else if a = Z.next then _ else _) = _
  rw [if_neg (by lia), if_neg (by exact Nat.ne_of_lt (by assumption))]
 have l1 : Z1.objs (Z.next + 1) = .list [.tup [.int 103, .bool true]] := by rw [<- hσ1]; exact if_pos rfl
 have hpw : gS [.ref (g.pl k), .int 103, .bool true] Z = some (.ref (Z.next + 1), Z1) := by
  have s1 : aF 3 (ap cP (ac (ab 0) (ac (ab 1) aj))) [some (.ref (g.pl k)), some (.int 103), some (.bool true), none] Z = some ((.next, [some (.ref (g.pl k)), some (.int 103), some (.bool true), some (.int (-1))]), Z) := by
   unfold aF
   rw [aG (bo (vs := [.ref (g.pl k), .int 103]) (Z0 := Z) rfl (rz hp))]
   rfl
  have hplk := P.lpl k hk
  have pp : (Z.push (.list [.tup [.int 103, .bool true]])).objs (g.pl k) = .list [] := by
   show (if g.pl k = Z.next then _ else Z.objs (g.pl k)) = _
   rw [if_neg (by exact Nat.ne_of_lt (by assumption))]; exact hp
  have pn : (Z.push (.list [.tup [.int 103, .bool true]])).objs Z.next = .list [.tup [.int 103, .bool true]] := if_pos rfl
  have s2 : cX (aY (ab 3) (az iN (aS 0))) (ai (cJ (bA qY (ab 0) (cQ (ac (fS (ac (ab 1) (ac (ab 2) aj))) aj)))) aA) aA [some (.ref (g.pl k)), some (.int 103), some (.bool true), some (.int (-1))] Z = some ((.ret (.ref (Z.next + 1)), [some (.ref (g.pl k)), some (.int 103), some (.bool true), some (.int (-1))]), Z1) := by
   show ai _ _ _ Z = _
   refine bv ?_
   unfold cJ bA
   show cb (qY (.ref (g.pl k)) (.ref Z.next) (Z.push (.list [.tup [.int 103, .bool true]]))) _ = _
   unfold qY
   simp only [pp, pn]
   rw [<- hσ1]
   rfl
  exact kF rfl (aD s1 (bv s2))
 have hov1 : Z1.objs (g.ov k) = .inst 2 [.int k, .ref (g.nd k), .ref g.hm, .ref (g.pl k)] := by rw [o1 _ (P.lov k hk), ho, hhome]
 generalize hσ2 : Z1.set (g.ov k) (.inst 2 [.int k, .ref (g.nd k), .ref g.hm, .ref (Z.next + 1)]) = Z2; revert Z2; refine qQ ?_; intro Z2 hσ2
 have n2 : Z2.next = Z.next + 2 := by rw [<- hσ2]; exact n1
 have P2 : PS Z2 (g.mark k (Z.next + 1)) t := by
  have hlt := P.lov k hk
  refine AE P hk (by exact Nat.le_succ _) (by rw [n2]; exact Nat.le_refl _) (λ a h1 h2 => ?_) ?_ ?_
  ·rw [<- hσ2, aT, if_neg h2, o1 a h1]
  ·rw [<- hσ2, hhome]; exact if_pos rfl
  ·rw [<- hσ2, aT, if_neg (by lia)]; exact l1
 have mtag : ∀ a, a < Z.next -> (g.mark k (Z.next + 1)).tag a = g.tag a := λ a ha => if_neg (by lia)
 have U2 : nh g Z Z2 := ⟨by rw [n2]; exact Nat.le_add_right .., λ a h1 h2 => by
  have : a ≠ g.ov k := λ z => by rw [z, P.tov k hk] at h2; simp at h2
  rw [<- hσ2, aT, if_neg this, o1 a h1]⟩
 refine gX (rW P2 (k := k) hk hl) λ Z3 t3 b1 b2 b3 => ?_
 refine gX (xH b2 (k := k) hk hl) λ Z4 t4 c1 c2 c3 => ?_
 have U4 : nh g Z Z4 := U2.trans ⟨Nat.le_trans b3.next c3.next, λ a h1 h2 => by
  by_cases h3 : a < Z.next
  ·have ht : (g.mark k (Z.next + 1)).tag a = g.tag a := mtag a h3
   rw [c3.old a (Nat.lt_of_lt_of_le h1 b3.next) (by rw [ht]; exact h2), b3.old a h1 (by rw [ht]; exact h2)]
  ·have ht : a = Z.next + 1 \/ (g.mark k (Z.next + 1)).tag a = g.tag a := by
    by_cases q : a = Z.next + 1
    ·exact .inl q
    ·exact .inr (if_neg q)
   rcases ht with q | ht
   ·-- a is the new plist
    have hpl3 : Z3.objs (Z.next + 1) = Z2.objs (Z.next + 1) := by
     have e3 := b2.plist k hk
     have e2 := P2.plist k hk
     have hid : (g.mark k (Z.next + 1)).pl k = Z.next + 1 := if_pos rfl
     rw [hid] at e3 e2
     rw [e3, e2]
    have hpl4 : Z4.objs (Z.next + 1) = Z2.objs (Z.next + 1) := by
     have e3 := c2.plist k hk
     have e2 := P2.plist k hk
     have hid : (g.mark k (Z.next + 1)).pl k = Z.next + 1 := if_pos rfl
     rw [hid] at e3 e2
     rw [e3, e2]
    rw [q]; exact hpl4
   ·rw [c3.old a (Nat.lt_of_lt_of_le h1 b3.next) (by rw [ht]; exact h2), b3.old a h1 (by rw [ht]; exact h2)]⟩
 have hov2 : Z2.objs (g.ov k) = .inst 2 [.int k, .ref (g.nd k), .ref g.hm, .ref (Z.next + 1)] := by rw [<- hσ2]; exact if_pos rfl
 have hru2 : Z2.objs g.ru = Gi lp df := by
  rw [<- hσ2, aT, if_neg (bQ P.tru (P.tov k hk) (by decide)), o1 _ P.lru]; exact hr
 have b1' : cN [.ref (g.ov k)] Z2 = some (.int (g.B k), Z3) := b1
 have c1' : dc [.ref (g.ov k)] Z3 = some (.int (g.E k), Z4) := c1
 have s1 : aF 4 (ty (ap gV (ac (ak da (ab 1)) (ac (ab 2) (ac (ab 3) aj))))) [some (.ref g.ru), some (.ref (g.ov k)), some (.int 103), some (.bool true), none] Z = some ((.next, [some (.ref g.ru), some (.ref (g.ov k)), some (.int 103), some (.bool true), some (.bool true)]), Z) := by
  unfold aF ty
  rw [aG (aG (bo (vs := [.ref (g.pl k), .int 103, .bool true]) (Z0 := Z) (by exact aI (aB (aw rfl) ho rfl rfl) (aI (aw rfl) (aI (aw rfl) bZ))) hhp))]
  rfl
 have s2 : cX (bz (ab 4)) (ai (am da (ab 1) (ap gS (ac (ak da (ab 1)) (ac (ab 2) (ac (ab 3) aj))))) aA) aA [some (.ref g.ru), some (.ref (g.ov k)), some (.int 103), some (.bool true), some (.bool true)] Z = some ((.next, [some (.ref g.ru), some (.ref (g.ov k)), some (.int 103), some (.bool true), some (.bool true)]), Z2) := by
  show ai _ _ _ Z = _
  refine av (Z1 := Z2) ?_ rfl
  unfold am
  rw [aG (bo (vs := [.ref (g.pl k), .int 103, .bool true]) (Z0 := Z) (by exact aI (aB (aw rfl) ho rfl rfl) (aI (aw rfl) (aI (aw rfl) bZ))) hpw)]
  rw [<- hσ2]
  simp only [ab, ei, fZ, da, List.lookup, List.length, List.getElem?_cons_zero, List.getElem?_cons_succ, beq_self_eq_true, List.set, ↓reduceIte, Nat.reduceAdd, Nat.reduceLT, hov1]
 have t1 : (c9 (aY (ab 2) (az fq (ak dm (ab 0)))) (c9 (nA (bz (mR 4 bC (ab 0) (ac (ab 3) aj)))) (c9 (aY (ak cK (ab 1)) (az bR bq)) cR))) [some (.ref g.ru), some (.ref (g.ov k)), some (.int 103), some (.bool true), some (.bool true)] Z2 = some (true, Z2) := by
  have ta : aY (ab 2) (az fq (ak dm (ab 0))) [some (.ref g.ru), some (.ref (g.ov k)), some (.int 103), some (.bool true), some (.bool true)] Z2 = some (true, Z2) := by
   exact dM (aw rfl) (aB (aw rfl) hru2 rfl rfl) rfl
  have hn : bC [.ref g.ru, .bool true] Z2 = some (.bool false, Z2) := by
   unfold bC bg
   show cb (dD [some (.ref g.ru), some (.bool true)] Z2) _ = _
   unfold dD
   rw [bv (v := .bool false) (fr1 := [some (.ref g.ru), some (.bool true)]) (Z1 := Z2) (by
    unfold cJ
    rw [aG (bo (vs := [.bool true, .none]) (Z0 := Z2) (by exact aI (aw rfl) (aI (aB (aw rfl) hru2 rfl rfl) bZ)) (show AC [.bool true, .none] Z2 = some (.bool false, Z2) from rfl))])]
   rfl
  have tb : nA (bz (mR 4 bC (ab 0) (ac (ab 3) aj))) [some (.ref g.ru), some (.ref (g.ov k)), some (.int 103), some (.bool true), some (.bool true)] Z2 = some (true, Z2) := by
   have hc : Bq 4 (.ref g.ru) Z2 = true := by unfold Bq; simp only [hru2, Gi]; rfl
   unfold nA bz mR
   show cb (cb (if Bq 4 (.ref g.ru) Z2 = true then cb (some ([PV.bool true], Z2)) _ else none) _) _ = _
   rw [if_pos hc]
   show cb (cb (bC [.ref g.ru, .bool true] Z2) _) _ = _
   rw [hn]
   rfl
  have tc : aY (ak cK (ab 1)) (az bR bq) [some (.ref g.ru), some (.ref (g.ov k)), some (.int 103), some (.bool true), some (.bool true)] Z2 = some (true, Z2) := by
   exact dM (aB (aw rfl) hov2 rfl rfl) eH rfl
  unfold c9
  rw [aG ta]
  show cb (nA _ _ Z2) _ = _
  rw [aG tb]
  show cb (aY _ _ _ Z2) _ = _
  rw [aG tc]
  rfl
 have t2' : aY (ap cN (ac (ab 1) aj)) (az fq (ap dc (ac (ab 1) aj))) [some (.ref g.ru), some (.ref (g.ov k)), some (.int 103), some (.bool true), some (.bool true)] Z2 = some (decide (g.B k = g.E k), Z4) := by
  unfold aY
  rw [aG (bo (vs := [.ref (g.ov k)]) (Z0 := Z2) rfl b1')]
  unfold az
  rw [aG (bo (vs := [.ref (g.ov k)]) (Z0 := Z3) rfl c1')]
  rfl
 have hrun : ∀ Z5, (cX (aY (ap cN (ac (ab 1) aj)) (az fq (ap dc (ac (ab 1) aj)))) (ai (bi (ap cF (ac (ab 1) aj))) aA) aA) [some (.ref g.ru), some (.ref (g.ov k)), some (.int 103), some (.bool true), some (.bool true)] Z2 = some ((.next, [some (.ref g.ru), some (.ref (g.ov k)), some (.int 103), some (.bool true), some (.bool true)]), Z5) -> ew [.ref g.ru, .ref (g.ov k), .int 103, .bool true] Z = some (.bool true, Z5) := by
  intro Z5 h
  exact kF rfl (aD s1 (av s2 (av (Z1 := Z5) (by
   show cb (c9 _ _ _ _) _ = _
   rw [t1]
   exact av h rfl) (bv (v := .bool true) (fr1 := [some (.ref g.ru), some (.ref (g.ov k)), some (.int 103), some (.bool true), some (.bool true)]) (Z1 := Z5) rfl))))
 cases hb : decide (g.B k = g.E k) with
 | false =>
  rw [hb] at t2'
  refine nZ (.bool true) Z4 t4 (Z.next + 1) (hrun Z4 (by unfold cX; rw [t2']; rfl)) ?_ U4 (by exact Nat.le_succ _)
  rw [nw]; exact c2
 | true =>
  rw [hb] at t2'
  refine ed (mG c2 (k := k) hk hl) λ Z5 t5 d1 d2 d3 _ => ?_
  have d1' : cF [.ref (g.ov k)] Z4 = some (.none, Z5) := d1
  refine nZ (.bool true) Z5 t5 (Z.next + 1) (hrun Z5 (by unfold cX; rw [t2']; exact av (cv (vs := [.ref (g.ov k)]) (Z0 := Z4) rfl d1') rfl)) ?_ ?_ (by exact Nat.le_succ _)
  ·rw [pQ]; exact d2
  ·refine ⟨Nat.le_trans U4.next d3.next, λ a h1 h2 => ?_⟩
   rw [d3.old a (Nat.lt_of_lt_of_le h1 U4.next) (by rw [mtag a h1]; exact h2), U4.old a h1 h2]
end
end
section
theorem pL {α : Type} {r : α -> PV} {t : ag -> M Bool} {e : ag -> M PV} {fr : ag} {Z : St} {b : α -> Bool} {f : α -> PV} : ∀ (I : List α) (acc : List PV), (∀ v ∈ I, t (some (r v) :: fr) Z = some (b v, Z)) -> (∀ v ∈ I, b v = true -> e (some (r v) :: fr) Z = some (f v, Z)) -> acc.length + I.length <= 1000 ->
  gj t e fr (I.map r) acc Z = some (acc ++ (I.filter b).map f, Z)
 | [], acc, _, _, _ => by simp [gj]
 | v :: vs, acc, h1, h2, hz => by
  rw [List.length_cons] at hz
  show cb (t (some (r v) :: fr) Z) _ = _
  rw [aG (h1 v (List.mem_cons_self ..))]
  cases hb : b v with
  | false =>
   rw [List.filter_cons, hb]
   exact pL vs acc (λ w hw => h1 w (List.mem_cons_of_mem _ hw)) (λ w hw => h2 w (List.mem_cons_of_mem _ hw)) (by lia)
  | true =>
   show cb (e (some (r v) :: fr) Z) _ = _
   rw [aG (h2 v (List.mem_cons_self ..) hb), if_pos (by lia), pL vs (acc ++ [f v]) (λ w hw => h1 w (List.mem_cons_of_mem _ hw)) (λ w hw => h2 w (List.mem_cons_of_mem _ hw)) (by rw [List.length_append, List.length_singleton]; lia), List.filter_cons, hb]
   simp
theorem fP {α : Type} {r : α -> PV} {keep : List Bool} {a : ag -> M PV} {t : ag -> M Bool} {e : ag -> M PV} {fr : ag} {x : PV} {Z Z0 Z1 : St} {I : List α} {b : α -> Bool} {f : α -> PV} (ha : a fr Z0 = some (x, Z)) (hl : cn x Z = some (I.map r, Z1)) (hz : I.length <= 1000)
  (h1 : ∀ v ∈ I, t (some (r v) :: gf keep fr) Z1 = some (b v, Z1)) (h2 : ∀ v ∈ I, b v = true -> e (some (r v) :: gf keep fr) Z1 = some (f v, Z1)) :
  dV keep a t e fr Z0 = some (.ref Z1.next, Z1.push (.list ((I.filter b).map f))) := by
 unfold dV
 rw [aG ha]
 rw [hl]
 show cb (gj _ _ _ _ _ _) _ = _
 rw [aG (pL I [] h1 h2 (by simpa using hz))]
 unfold nP
 rw [if_pos (by rw [List.nil_append, List.length_map]; exact Nat.le_trans (List.length_filter_le _ _) hz)]
 rfl
theorem eO {Z : St} {l : Nat} {vs : List PV} (h : Z.objs l = .list vs) : cn (.ref l) Z = some (vs, Z.set l (.flist vs)) := by unfold cn; simp only [h]
theorem rg {Z : St} : ∀ {t : T} {p : PV} {c : Int}, Sub Z p t -> ∀ it ∈ t.inord c, ∃ b e ws, Z.objs it.id = .inst 0 (it.num :: .int b :: .int e :: ws) /\ e - b = it.e - it.b
 | .E, _, _, _, it, h => by cases h
 | .N l x r, p, c, ⟨h1, h2, h3⟩, it, h => by
  have h' : it ∈ l.inord (c + x.off) ++ ⟨x.id, x.num, x.b + (c + x.off), x.e + (c + x.off)⟩ :: r.inord (c + x.off) := h
  rcases List.mem_append.mp h' with q | q
  ·exact rg h2 it q
  ·rcases List.mem_cons.mp q with q | q
   ·rw [q]; exact z9 x.b x.e _ h1 (by show _ = x.e + (c + x.off) - (x.b + (c + x.off)); lia)
   ·exact rg h3 it q
noncomputable def gd (it : It) : Nat := match it.num with | .int k => k.toNat | _ => 0
section
variable {Z Z' Z0 : St} {g : G} {t t' t0 : T}
theorem yh (g : G) (k : Nat) : gd (g.it k) = k := by show (k : Int).toNat = k; simp
theorem PS.itOf (P : PS Z g t) {it : It} (h : it ∈ t.inord 0) : gd it < g.N /\ g.lv (gd it) = true /\ it = g.it (gd it) := by
 refine cj ((P.items it).mp h) λ k h1 h2 qq1 => ?_; obtain rfl := qq1
 rw [yh]; exact ⟨h1, h2, rfl⟩
theorem PS.itMem (P : PS Z g t) {k : Nat} (hk : k < g.N) (hl : g.lv k = true) : g.it k ∈ t.inord 0 := (P.items _).mpr ⟨k, hk, hl, rfl⟩
theorem PS.nums (P : PS Z g t) : ((t.inord 0).map gd).Nodup := by
 have h := (List.nodup_cons.mp P.tree.nodup).2
 rw [<- T.inord_ids 0, List.nodup_iff_pairwise_ne, List.pairwise_map] at h
 rw [List.nodup_iff_pairwise_ne, List.pairwise_map]
 refine List.Pairwise.imp_of_mem (λ {a b} ha hb hab q => hab ?_) h
 rw [(P.itOf ha).2.2, (P.itOf hb).2.2, q]
theorem PS.move (P0 : PS Z0 g t0) (P : PS Z g t) (h : ∀ a, a < Z0.next -> Z'.objs a = Z.objs a) (hn : Z.next <= Z'.next) : PS Z' g t := by
 refine fj P.rules λ lp df hr => ?_
 refine br P.dict λ D hD => ?_
 have tl : ∀ a ∈ t.ids, a < Z0.next := λ a ha => by
  refine cj (P.tids ha) λ k h1 _ qq2 => ?_; obtain rfl := qq2
  exact P0.lnd k h1
 have trl := P0.tree.lt _ (List.mem_cons_self ..)
 refine ⟨(h _ P0.lhm).trans P.home, ⟨lp, df, (h _ P0.lru).trans hr⟩, ⟨?_, Sub.of (λ a ha => h a (tl a ha)) P.tree.sub, P.tree.nodup, λ a ha => Nat.lt_of_lt_of_le (P.tree.lt a ha) hn⟩, P.ub, P.shape, P.sorted, P.items, P.be, ⟨D, (h _ P0.lod).trans hD.1, hD.2⟩, λ k hk => (h _ (P0.lov k hk)).trans (P.over k hk), λ k hk => (h _ (P0.lpl k hk)).trans (P.plist k hk), λ k hk hl => by rw [h _ (P0.lnd k hk)]; exact P.node k hk hl, P.thm, P.tru, P.ttr, P.tod, P.tov, P.tnd, P.tpl, Nat.lt_of_lt_of_le P.lhm hn, Nat.lt_of_lt_of_le P.lru hn, Nat.lt_of_lt_of_le P.lod hn, λ k hk => Nat.lt_of_lt_of_le (P.lov k hk) hn, λ k hk => Nat.lt_of_lt_of_le (P.lnd k hk) hn, λ k hk => Nat.lt_of_lt_of_le (P.lpl k hk) hn⟩
 refine br P.tree.root λ cnt hc => ?_
 exact ⟨cnt, (h _ trl).trans hc⟩
theorem PS.nb (P : PS Z g t) (b e : Int) : ∃ fl Z' t', bF [.ref g.tr, .int b, .int e] Z = some (.ref fl, Z') /\ PS Z' g t' /\ nh g Z Z' /\ Z.next <= fl /\ fl < Z'.next /\ t'.inord 0 = t.inord 0 /\ (∀ a, a < Z.next -> a ∉ t.ids -> Z'.objs a = Z.objs a) /\
  Z'.objs fl = .list (((t.inord 0).filter (gq b e)).map (λ it => .ref it.id)) /\ ∀ it ∈ (t.inord 0).filter (gq b e), FB Z' it := by
 refine FI (D4 (b := b) (e := e) P.tree P.ub P.shape P.sorted) λ fl Z' t' h1 h2 h3 h4 h5 h6 h7 h8 h9 h10 h11 => ?_
 have hF : xU Z (g.tr :: t.ids) Z' := ⟨h6.next, λ a k1 k2 => h6.old a k1 (λ q => k2 (List.mem_cons_of_mem _ q))⟩
 exact uU fl Z' t' h1 (P.turn hF h2 h5 h3 h4) (P.unt hF) h7 h8 h4 h6.old h10 h11
theorem vH (P0 : PS Z0 g t0) (P : PS Z g t) {l : Nat} {I : List It} (hI : ∀ it ∈ I, it ∈ t.inord 0) (hz : I.length <= 100) (hl : Z.objs l = .list (I.map (λ it => .ref it.id))) (h0 : Z0.next <= l) (h1 : l < Z.next) :
  ∃ Z', gv [.ref g.hm, .ref l] Z = some (.ref Z.next, Z') /\ PS Z' g t /\ Z'.next = Z.next + 1 /\ (∀ a, a < Z.next -> a ≠ l -> Z'.objs a = Z.objs a) /\ Z'.objs Z.next = .list (I.map (λ it => .ref (g.ov (gd it)))) := by
 refine gJ P.dict λ D hD hDn hDl hD1 hD2 => ?_
 have hz' : (I.map (λ it => PV.ref it.id)).length <= 1000 := by rw [List.length_map]; lia
 have oth : ∀ a, a < Z0.next -> (Z.set l (.flist (I.map (λ it => .ref it.id)))).objs a = Z.objs a := λ a ha => if_neg (by exact Nat.ne_of_lt (Nat.lt_of_lt_of_le (by assumption) (by assumption)))
 have hh : (Z.set l (.flist (I.map (λ it => .ref it.id)))).objs g.hm = .inst 3 [.ref g.tr, .ref g.od, .ref g.ru] := (oth _ P0.lhm).trans P.home
 have hdd : (Z.set l (.flist (I.map (λ it => .ref it.id)))).objs g.od = .dict D := (oth _ P0.lod).trans hD
 generalize hσ1 : Z.set l (.flist (I.map (λ it => .ref it.id))) = Z1 at oth hh hdd
 have hit1 : cn (.ref l) Z = some (I.map (λ it => PV.ref it.id), Z1) := by rw [eO hl, hσ1]
 have hf : ∀ it ∈ I, bp (ak ca (ab 1)) (ak bP (ab 0)) (some (.ref it.id) :: gf [true, false] [some (.ref g.hm), some (.ref l)]) Z1 = some (.ref (g.ov (gd it)), Z1) := by
  intro it hit
  refine bN (P.itOf (hI it hit)) λ k1 k2 k3 => ?_
  refine iV (rg P.tree.sub it (hI it hit)) λ b e ws ho _ => ?_
  have hid : it.id = g.nd (gd it) := congrArg It.id k3
  have hnum : it.num = .int (gd it) := congrArg It.num k3
  have hn : Z1.objs it.id = .inst 0 (it.num :: .int b :: .int e :: ws) := by
   rw [oth _ (by rw [hid]; exact P0.lnd _ k1)]; exact ho
  have hg := hD1 _ k1 k2
  have e1 : ak ca (ab 1) (some (.ref it.id) :: gf [true, false] [some (.ref g.hm), some (.ref l)]) Z1 = some (.ref g.od, Z1) := aB (k := 1) (i := g.hm) rfl hh rfl rfl
  have e2 : ak bP (ab 0) (some (.ref it.id) :: gf [true, false] [some (.ref g.hm), some (.ref l)]) Z1 = some (.int (gd it), Z1) := aB (k := 0) (i := it.id) rfl hn rfl (by rw [<- hnum]; rfl)
  unfold bp
  rw [aG e1, aG e2]
  simp only [kT, hdd, hg]
 have hcomp := fP (keep := [true, false]) (a := ab 1) (t := cR) (e := bp (ak ca (ab 1)) (ak bP (ab 0))) (fr := [some (.ref g.hm), some (.ref l)]) (Z := Z) (Z0 := Z) (b := λ _ => true) (f := λ it => .ref (g.ov (gd it))) rfl hit1 (by lia) (λ v _ => rfl) (λ it hit _ => hf it hit)
 rw [List.filter_eq_self.mpr (λ _ _ => rfl)] at hcomp
 have n1 : Z1.next = Z.next := by rw [<- hσ1]; rfl
 rw [n1] at hcomp
 have o1 : ∀ a, a ≠ l -> Z1.objs a = Z.objs a := λ a ha => by rw [<- hσ1, aT, if_neg ha]
 have o2 : ∀ a o, a ≠ Z.next -> (Z1.push o).objs a = Z1.objs a := λ a o ha => if_neg (by rw [n1]; exact ha)
 refine ri (Z1.push (.list (I.map (λ it => .ref (g.ov (gd it)))))) ?_ (P0.move P (λ a ha => ?_) (by show Z.next <= Z1.next + 1; lia)) (by show Z1.next + 1 = _; lia) (λ a h2 h3 => ?_) (if_pos n1.symm)
 ·unfold gv bg
  show cb (kO [some (.ref g.hm), some (.ref l)] Z) _ = _
  unfold kO
  rw [bv (v := .ref Z.next) (fr1 := [some (.ref g.hm), some (.ref l)]) (Z1 := Z1.push (.list (I.map (λ it => .ref (g.ov (gd it)))))) (by
   unfold cJ
   rw [aG hcomp])]
  rfl
 ·rw [o2 _ _ (by lia), o1 _ (by exact Nat.ne_of_lt (Nat.lt_of_lt_of_le (by assumption) (by assumption)))]
 ·rw [o2 _ _ (by exact Nat.ne_of_lt (by assumption)), o1 _ h3]
end
end
section
theorem sP {a b : ag -> M PV} {fr : ag} {Z Z1 : St} {x y : Bool} (h : a fr Z = some (.bool x, Z1)) (k : b fr Z1 = some (.bool y, Z1)) : Eu a b fr Z = some (.bool (x || y), Z1) := by
 unfold Eu
 rw [aG h]
 cases x
 ·exact k
 ·rfl
theorem zM {a b : ag -> M PV} {fr : ag} {Z Z1 : St} {x y : Bool} (h : a fr Z = some (.bool x, Z1)) (k : b fr Z1 = some (.bool y, Z1)) : ui a b fr Z = some (.bool (x && y), Z1) := by
 unfold ui
 rw [aG h]
 cases x
 ·rfl
 ·exact k
section
variable {Z Z' Z0 : St} {g : G} {t t' t0 : T}
theorem PS.len (P : PS Z g t) : (t.inord 0).length <= 6 := by
 rw [T.inord_length, <- T.shape_size]; exact wm P.shape
theorem PS.pick (P : PS Z g t) (q : It -> Bool) : (((t.inord 0).filter q).map gd).Nodup /\ ∀ k, k ∈ ((t.inord 0).filter q).map gd ↔ k < g.N /\ g.lv k = true /\ q (g.it k) = true := by
 refine ⟨P.nums.sublist (List.Sublist.map _ List.filter_sublist), λ k => ?_⟩
 rw [List.mem_map]
 constructor
 ·intro qq1; refine aQ qq1 λ it h qq2 => ?_; obtain rfl := qq2
  rw [List.mem_filter] at h
  refine bN (P.itOf h.1) λ h1 h2 h3 => ?_
  exact ⟨h1, h2, by rw [<- h3]; exact h.2⟩
 ·intro qq3; refine bN qq3 λ h1 h2 h3 => ?_
  exact cC (g.it k) (List.mem_filter.mpr ⟨P.itMem h1 h2, h3⟩) (yh g k)
noncomputable def Dh (p : Int) (it : It) : Bool := decide (it.b <= p) && decide (p < it.e)
theorem D5 (P : PS Z g t) (p : Int) : ∃ (r : Nat) (Z' : St) (t' : T) (L : List Nat), ey [.ref g.hm, .int p] Z = some (.ref r, Z') /\ PS Z' g t' /\ nh g Z Z' /\ Z.next <= r /\ r < Z'.next /\ Z'.objs r = .list (L.map (λ k => .ref (g.ov k))) /\ L.Nodup /\ L.length <= 6 /\ ∀ k, k ∈ L ↔ k < g.N /\ g.lv k = true /\ g.B k <= p /\ p < g.E k := by
 refine ng (P.nb p p) λ fl Z1 t1 n1 n2 n3 n4 n5 n6 n7 n8 n9 => ?_
 have hh := P.home
 have hnb : ap bF (ac (ak cL (ab 0)) (ac (ab 1) (ac (ab 1) aj))) [some (.ref g.hm), some (.int p)] Z = some (.ref fl, Z1) :=
  bo (vs := [.ref g.tr, .int p, .int p]) (Z0 := Z) (by exact aI (aB (aw rfl) hh rfl rfl) (aI (aw rfl) (aI (aw rfl) bZ))) n1
 generalize hσ2 : Z1.set fl (.flist (((t.inord 0).filter (gq p p)).map (λ it => .ref it.id))) = Z2
 have hit : cn (.ref fl) Z1 = some (((t.inord 0).filter (gq p p)).map (λ it => PV.ref it.id), Z2) := by rw [eO n8, hσ2]
 have o2 : ∀ a, a ≠ fl -> Z2.objs a = Z1.objs a := λ a ha => by rw [<- hσ2, aT, if_neg ha]
 have x2 : Z2.next = Z1.next := by rw [<- hσ2]; rfl
 have hlen : ((t.inord 0).filter (gq p p)).length <= 6 := Nat.le_trans (List.length_filter_le _ _) P.len
 have hin : ∀ it ∈ (t.inord 0).filter (gq p p), it.id < Z.next := λ it h => by
  refine bN (P.itOf (List.mem_filter.mp h).1) λ k1 k2 k3 => ?_
  rw [k3]; exact P.lnd _ k1
 have hcomp := fP (keep := [false, true]) (a := ap bF (ac (ak cL (ab 0)) (ac (ab 1) (ac (ab 1) aj)))) (t := aY (ak aX (ab 0)) (cH oZ (ab 2) (az iN (ak bx (ab 0))))) (e := ab 0) (fr := [some (.ref g.hm), some (.int p)]) (Z0 := Z) (b := Dh p) (f := λ it => .ref it.id) hnb hit (by lia) (λ it h => by
   refine br (n9 it h) λ ws ho => ?_
   have hid := hin it h
   have ho2 : Z2.objs it.id = _ := (o2 _ (by exact Nat.ne_of_lt (Nat.lt_of_lt_of_le (by assumption) (by assumption)))).trans ho
   exact fF (aB rfl ho2 rfl rfl) (fn (y := .int p) rfl rfl (dx (aB rfl ho2 rfl rfl) rfl))) (λ it h _ => rfl)
 rw [x2] at hcomp
 have hfil : (((t.inord 0).filter (gq p p)).filter (Dh p)) = (t1.inord 0).filter (λ it => Dh p it && gq p p it) := by rw [List.filter_filter, n6]
 rw [hfil] at hcomp
 generalize hσ3 : Z2.push (.list (((t1.inord 0).filter (λ it => Dh p it && gq p p it)).map (λ it => .ref it.id))) = Z3 at hcomp
 have x3 : Z3.next = Z1.next + 1 := by rw [<- hσ3, <- x2]; rfl
 have o3 : ∀ a, a < Z.next -> Z3.objs a = Z1.objs a := λ a ha => by
  have hlt := n3.next
  rw [<- hσ3]
  show (if a = Z2.next then _ else Z2.objs a) = _
  rw [if_neg (by lia), o2 _ (by exact Nat.ne_of_lt (Nat.lt_of_lt_of_le (by assumption) (by assumption)))]
 have l3 : Z3.objs Z1.next = .list (((t1.inord 0).filter (λ it => Dh p it && gq p p it)).map (λ it => .ref it.id)) := by rw [<- hσ3]; exact if_pos x2.symm
 have P3 : PS Z3 g t1 := P.move n2 o3 (by lia)
 refine gJ (vH (Z0 := Z) P P3 (I := (t1.inord 0).filter (λ it => Dh p it && gq p p it)) (λ it h => (List.mem_filter.mp h).1) (by have := List.length_filter_le (λ it => Dh p it && gq p p it) (t1.inord 0); rw [n6] at this |-; have := P.len; lia) l3 (by have := n3.next; assumption) (by lia)) λ Z4 e1 e2 e3 e4 e5 => ?_
 refine bK (P3.pick (λ it => Dh p it && gq p p it)) λ k1 k2 => ?_
 refine Et Z3.next Z4 t1 (((t1.inord 0).filter (λ it => Dh p it && gq p p it)).map gd) ?_ e2 ⟨?_, λ a h1 h2 => ?_⟩ ?_ (by lia) ?_ k1 ?_ (λ k => ?_)
 ·unfold ey bg
  show cb (im [some (.ref g.hm), some (.int p)] Z) _ = _
  unfold im
  rw [bv (v := .ref Z3.next) (fr1 := [some (.ref g.hm), some (.int p)]) (Z1 := Z4) (by
   unfold cJ
   rw [aG (bo (vs := [.ref g.hm, .ref Z1.next]) (Z0 := Z3) (by
    exact aI rfl (aI hcomp rfl)) e1)])]
  rfl
 ·have := n3.next; lia
 ·have hlt := n3.next
  rw [e4 a (by lia) (by exact Nat.ne_of_lt (Nat.lt_of_lt_of_le (by assumption) (by assumption))), o3 a h1]; exact n3.old a h1 h2
 ·have := n3.next; lia
 ·rw [e5, List.map_map]; rfl
 ·rw [List.length_map]
  have := List.length_filter_le (λ it => Dh p it && gq p p it) (t1.inord 0); rw [n6] at this |-; have := P.len; exact Nat.le_trans (by assumption) (by assumption)
 ·rw [k2]
  show _ /\ _ /\ (((decide (g.B k <= p) && decide (p < g.E k)) && (decide (g.B k <= p) && decide (p <= g.E k))) = true) ↔ _
  simp only [Bool.and_eq_true, decide_eq_true_eq]
  constructor
  ·intro qq4; refine iH qq4 λ a b qq5 _ => ?_; refine bK qq5 λ c d => ?_; exact ⟨a, b, c, d⟩
  ·intro qq6; refine iH qq6 λ a b c d => ?_; exact ⟨a, b, ⟨c, d⟩, c, by exact Int.le_of_lt (by assumption)⟩
noncomputable def yA (s l : Int) (f : Bool) (it : It) : Bool := if it.b < it.e then decide (it.b < l) && decide (s < it.e) else decide (it.b = s) || ((decide (s < it.b) && decide (it.b < l)) || (decide (it.b = l) && f))
theorem yU {Z : St} {n : Nat} {w0 : PV} {ws : List PV} {it : It} {s l : Int} {f : Bool} (ho : Z.objs n = .inst 0 (w0 :: .int it.b :: .int it.e :: ws)) : oW [.ref n, .int s, .int l, .bool f] Z = some (.bool (yA s l f it), Z) := by
 have ha : ak aX (ab 0) [some (.ref n), some (.int s), some (.int l), some (.bool f)] Z = some (.int it.b, Z) := aB rfl ho rfl rfl
 have hb : ak bx (ab 0) [some (.ref n), some (.int s), some (.int l), some (.bool f)] Z = some (.int it.e, Z) := aB rfl ho rfl rfl
 unfold yA
 by_cases h : it.b < it.e
 ·rw [if_pos h]
  exact kF rfl (bv (tO (dM ha hb (oP h)) (bv (mD (zM (eE ha (dx (aw rfl) rfl)) (eE hb (dx (aw rfl) rfl)))))))
 ·rw [if_neg h]
  exact kF rfl (av (tq (dM ha hb (qg h)) cG) (bv (mD (sP (eE ha (dx (aw rfl) rfl)) (sP (eE (aw rfl) (fn ha rfl (dx (aw rfl) rfl))) (zM (eE ha (dx (aw rfl) rfl)) (aw rfl)))))))
theorem DK (P : PS Z g t) (s l z : Int) : ∃ (r : Nat) (Z' : St) (t' : T) (L : List Nat), ez [.ref g.hm, .int s, .int l, .int z] Z = some (.ref r, Z') /\ PS Z' g t' /\ nh g Z Z' /\ Z.next <= r /\ r < Z'.next /\ Z'.objs r = .list (L.map (λ k => .ref (g.ov k))) /\ L.Nodup /\ L.length <= 6 /\ ∀ k, k ∈ L ↔ k < g.N /\ g.lv k = true /\ yA s l (decide (l = z)) (g.it k) = true /\ gq s l (g.it k) = true := by
 refine ng (P.nb s l) λ fl Z1 t1 n1 n2 n3 n4 n5 n6 n7 n8 n9 => ?_
 have hh := P.home
 have hnb : ap bF (ac (ak cL (ab 0)) (ac (ab 1) (ac (ab 2) aj))) [some (.ref g.hm), some (.int s), some (.int l), some (.int z), none] Z = some (.ref fl, Z1) :=
  bo (vs := [.ref g.tr, .int s, .int l]) (Z0 := Z) (aI (aB (aw rfl) hh rfl rfl) (aI (aw rfl) (aI (aw rfl) bZ))) n1
 generalize hσ2 : Z1.set fl (.flist (((t.inord 0).filter (gq s l)).map (λ it => .ref it.id))) = Z2; revert Z2; refine qQ ?_; intro Z2 hσ2
 have hit : cn (.ref fl) Z1 = some (((t.inord 0).filter (gq s l)).map (λ it => PV.ref it.id), Z2) := by rw [eO n8, hσ2]
 have o2 : ∀ a, a ≠ fl -> Z2.objs a = Z1.objs a := λ a ha => by rw [<- hσ2, aT, if_neg ha]
 have x2 : Z2.next = Z1.next := by rw [<- hσ2]; rfl
 have hlen : ((t.inord 0).filter (gq s l)).length <= 6 := Nat.le_trans (List.length_filter_le _ _) P.len
 have hin : ∀ it ∈ (t.inord 0).filter (gq s l), it.id < Z.next := λ it h => by
  refine bN (P.itOf (List.mem_filter.mp h).1) λ k1 k2 k3 => ?_
  rw [k3]; exact P.lnd _ k1
 have hcomp := fP (keep := [false, true, true, true, false]) (a := ap bF (ac (ak cL (ab 0)) (ac (ab 1) (ac (ab 2) aj)))) (t := bz (ap oW (ac (ab 0) (ac (ab 2) (ac (ab 3) (ac (eD (ab 3) (az fq (ab 4))) aj)))))) (e := ab 0) (fr := [some (.ref g.hm), some (.int s), some (.int l), some (.int z), none]) (Z0 := Z) (b := yA s l (decide (l = z))) (f := λ it => .ref it.id) hnb hit (by lia) (λ it h => by
   refine br (n9 it h) λ ws ho => ?_
   have hid := hin it h
   have ho2 : Z2.objs it.id = _ := (o2 _ (by exact Nat.ne_of_lt (Nat.lt_of_lt_of_le (by assumption) (by assumption)))).trans ho
   exact ky (bo (vs := [.ref it.id, .int s, .int l, .bool (decide (l = z))]) (Z0 := Z2) (aI (aw rfl) (aI (aw rfl) (aI (aw rfl) (aI (eE (aw rfl) (dx (aw rfl) rfl)) bZ)))) (yU ho2)) rfl) (λ it h _ => rfl)
 rw [x2] at hcomp
 have hfil : (((t.inord 0).filter (gq s l)).filter (yA s l (decide (l = z)))) = (t1.inord 0).filter (λ it => yA s l (decide (l = z)) it && gq s l it) := by rw [List.filter_filter, n6]
 rw [hfil] at hcomp
 generalize hσ3 : Z2.push (.list (((t1.inord 0).filter (λ it => yA s l (decide (l = z)) it && gq s l it)).map (λ it => .ref it.id))) = Z3 at hcomp; revert Z3; refine qQ ?_; intro Z3 hσ3 hcomp
 have x3 : Z3.next = Z1.next + 1 := by rw [<- hσ3, <- x2]; rfl
 have o3 : ∀ a, a < Z.next -> Z3.objs a = Z1.objs a := λ a ha => by
  have hlt := n3.next
  rw [<- hσ3]
  show (if a = Z2.next then _ else Z2.objs a) = _
  rw [if_neg (by lia), o2 _ (by exact Nat.ne_of_lt (Nat.lt_of_lt_of_le (by assumption) (by assumption)))]
 have l3 : Z3.objs Z1.next = .list (((t1.inord 0).filter (λ it => yA s l (decide (l = z)) it && gq s l it)).map (λ it => .ref it.id)) := by rw [<- hσ3]; exact if_pos x2.symm
 have P3 : PS Z3 g t1 := P.move n2 o3 (by lia)
 have hl6 : ((t1.inord 0).filter (λ it => yA s l (decide (l = z)) it && gq s l it)).length <= 6 := by
  have h1 := List.length_filter_le (λ it => yA s l (decide (l = z)) it && gq s l it) (t1.inord 0)
  rw [n6] at h1 |-; have := P.len; exact Nat.le_trans (by assumption) (by assumption)
 refine gJ (vH (Z0 := Z) P P3 (I := (t1.inord 0).filter (λ it => yA s l (decide (l = z)) it && gq s l it)) (λ it h => (List.mem_filter.mp h).1) (by lia) l3 (by have := n3.next; assumption) (by lia)) λ Z4 e1 e2 e3 e4 e5 => ?_
 refine bK (P3.pick (λ it => yA s l (decide (l = z)) it && gq s l it)) λ k1 k2 => ?_
 refine Et Z3.next Z4 t1 (((t1.inord 0).filter (λ it => yA s l (decide (l = z)) it && gq s l it)).map gd) ?_ e2 ⟨?_, λ a h1 h2 => ?_⟩ ?_ (by lia) ?_ k1 ?_ (λ k => ?_)
 ·unfold ez bg
  show cb (iw [some (.ref g.hm), some (.int s), some (.int l), some (.int z), none] Z) _ = _
  unfold iw
  rw [aD (fr1 := [some (.ref g.hm), some (.int s), some (.int l), some (.int z), some (.ref Z1.next)]) (Z1 := Z3) (by
   unfold aF
   rw [aG hcomp]
   rfl) (bv (v := .ref Z3.next) (fr1 := [some (.ref g.hm), some (.int s), some (.int l), some (.int z), some (.ref Z1.next)]) (Z1 := Z4) (by
   unfold cJ
   rw [aG (bo (vs := [.ref g.hm, .ref Z1.next]) (Z0 := Z3) rfl e1)]))]
  rfl
 ·have := n3.next; lia
 ·have hlt := n3.next
  rw [e4 a (by lia) (by exact Nat.ne_of_lt (Nat.lt_of_lt_of_le (by assumption) (by assumption))), o3 a h1]; exact n3.old a h1 h2
 ·have := n3.next; lia
 ·rw [e5, List.map_map]; rfl
 ·rw [List.length_map]; exact hl6
 ·rw [k2, Bool.and_eq_true]
end
end
noncomputable def jk (p m x : Int) : Int := if p < x /\ x < m then x else m
noncomputable def mT (p : Int) : Int -> List It -> Int
 | m, [] => m
 | m, it :: I => mT p (jk p (jk p m it.b) it.e) I
theorem uM (p m x : Int) : jk p m x <= m /\ (p < x -> jk p m x <= x) /\ (jk p m x = m \/ (jk p m x = x /\ p < x /\ x < m)) := by
 unfold jk
 split
 ·rename_i q
  exact ⟨Int.le_of_lt q.2, λ _ => Int.le_refl _, .inr ⟨rfl, q.1, q.2⟩⟩
 ·rename_i q
  exact ⟨Int.le_refl _, λ h => Int.not_lt.mp λ z => q ⟨h, z⟩, .inl rfl⟩
theorem Fs (p m : Int) (it : It) (I : List It) : mT p m (it :: I) = mT p (jk p (jk p m it.b) it.e) I := rfl
theorem As (p : Int) (I : List It) : ∀ (m : Int), mT p m I <= m /\ (∀ it ∈ I, ∀ x, x = it.b \/ x = it.e -> p < x -> mT p m I <= x) /\ (mT p m I = m \/ ∃ it ∈ I, (mT p m I = it.b \/ mT p m I = it.e) /\ p < mT p m I /\ mT p m I < m) := by
 induction I with
 | nil => exact λ m => ⟨Int.le_refl _, (λ _ h => absurd h List.not_mem_nil), .inl rfl⟩
 | cons it I ih =>
  intro m
  rw [Fs]
  refine bN (ih (jk p (jk p m it.b) it.e)) λ h1 h2 h3 => ?_
  refine bN (uM p m it.b) λ a1 a2 a3 => ?_
  refine bN (uM p (jk p m it.b) it.e) λ b1 b2 b3 => ?_
  generalize mT p (jk p (jk p m it.b) it.e) I = M at h1 h2 h3 |-; revert M; refine qQ ?_; intro M h1 h2 h3
  generalize jk p (jk p m it.b) it.e = m2 at h1 h2 h3 b1 b2 b3; revert m2; refine qQ ?_; intro m2 h1 h3 b1 b2 b3
  generalize jk p m it.b = m1 at a1 a2 a3 b1 b2 b3; revert m1; refine qQ ?_; intro m1 a1 a2 a3 b1 b3
  have b4 := Int.le_trans b1 a1
  exact ⟨Int.le_trans h1 b4, λ z hz x hx hin => (List.mem_cons.mp hz).elim (λ q => hx.elim (λ hx => Int.le_trans h1 (Int.le_trans b1 (by rw [q] at hx; rw [hx] at hin |-; exact a2 hin))) λ hx => Int.le_trans h1 (by rw [q] at hx; rw [hx] at hin |-; exact b2 hin)) λ q => h2 z q x hx hin,
   h3.elim (λ h3 => b3.elim (λ b3 => a3.elim (λ a3 => .inl (h3.trans (b3.trans a3))) λ a3 => .inr (cC it (List.mem_cons_self ..) (by rw [h3, b3, a3.1]; exact ⟨.inl rfl, a3.2⟩))) λ b3 => .inr (cC it (List.mem_cons_self ..) (by rw [h3, b3.1]; exact ⟨.inr rfl, b3.2.1, Int.lt_of_lt_of_le b3.2.2 a1⟩))) λ h3 => .inr (ke h3 λ z k1 k2 k3 k4 => cC z (List.mem_cons_of_mem _ k1) ⟨k2, k3, Int.lt_of_lt_of_le k4 b4⟩)⟩
def Hg : ag -> M (FR × ag) := (ai (cX (aY (ab 1) (cH iN (ab 5) (az iN (ab 3)))) (ai (aF 3 (ab 5)) aA) aA) aA)
theorem xm {Z : St} {h nd z : Option PV} {p m x : Int} : Hg [h, some (.int p), z, some (.int m), nd, some (.int x)] Z = some ((.next, [h, some (.int p), z, some (.int (jk p m x)), nd, some (.int x)]), Z) := by
 have ht {fr : ag} (h1 : fr[5]? = some (some (.int x))) (h2 : fr[1]? = some (some (.int p))) (h3 : fr[3]? = some (some (.int m))) : aY (ab 1) (cH iN (ab 5) (az iN (ab 3))) fr Z = some (decide (p < x) && decide (x < m), Z) := fF (aw h2) (fn (aw h1) rfl (dx (aw h3) rfl))
 unfold jk
 by_cases q : p < x /\ x < m
 ·rw [if_pos q]
  exact aD (tO ((ht rfl rfl rfl).trans (by rw [decide_eq_true q.1, decide_eq_true q.2]; rfl)) (aD (fA (aw rfl)) cG)) cG
 ·rw [if_neg q]
  exact av (tq ((ht rfl rfl rfl).trans (by rw [<- Bool.decide_and, decide_eq_false q])) cG) cG
def Fq : ag -> M (FR × ag) := (ai (eX 5 (fS (ac (ak aX (ab 4)) (ac (ak bx (ab 4)) aj))) Hg) aA)
theorem B3 {Z : St} {h y z : Option PV} {p m : Int} {n : Nat} {w0 : PV} {ws : List PV} {b e : Int} (ho : Z.objs n = .inst 0 (w0 :: .int b :: .int e :: ws)) :
  Fq [h, some (.int p), z, some (.int m), some (.ref n), y] Z = some ((.next, [h, some (.int p), z, some (.int (jk p (jk p m b) e)), some (.ref n), some (.int e)]), Z) := by
 have ht : fS (ac (ak aX (ab 4)) (ac (ak bx (ab 4)) aj)) [h, some (.int p), z, some (.int m), some (.ref n), y] Z = some (.tup [.int b, .int e], Z) := ip (aI (aB (aw rfl) ho rfl rfl) (aI (aB (aw rfl) ho rfl rfl) bZ)) (show 2 <= 1000 by decide)
 exact aD (q7 ht (show 2 <= 1000 by decide) (gD xm (gD xm rfl))) cG
theorem xp {Z : St} {h z : Option PV} {p : Int} : ∀ (I : List It) (m : Int) (n y : Option PV), (∀ it ∈ I, ∃ w0 ws, Z.objs it.id = .inst 0 (w0 :: .int it.b :: .int it.e :: ws)) ->
  ∃ n' y', gC 4 Fq (I.map (λ it => PV.ref it.id)) [h, some (.int p), z, some (.int m), n, y] Z = some ((.next, [h, some (.int p), z, some (.int (mT p m I)), n', y']), Z)
 | [], m, n, y, _ => ⟨n, y, rfl⟩
 | it :: I, m, n, y, hI => by
  refine fj (hI it (List.mem_cons_self ..)) λ w0 ws ho => ?_
  obtain ⟨n', y', h1⟩ := xp I (jk p (jk p m it.b) it.e) (some (.ref it.id)) (some (.int it.e)) (λ x hx => hI x (List.mem_cons_of_mem _ hx))
  refine sc n' y' ?_
  show cb (Fq [h, some (.int p), z, some (.int m), some (.ref it.id), y] Z) _ = _
  rw [aG (B3 ho)]
  exact h1
theorem Ge {Z : St} {g : G} {t : T} (P : PS Z g t) (p z : Int) : ∃ (M : Int) (Z' : St) (t' : T), cD [.ref g.hm, .int p, .int z] Z = some (.int M, Z') /\ PS Z' g t' /\ nh g Z Z' /\ M <= z /\ (∀ k, k < g.N -> g.lv k = true -> ∀ x, x = g.B k \/ x = g.E k -> p < x -> x < z -> M <= x) /\ (M = z \/ ∃ k, k < g.N /\ g.lv k = true /\ (M = g.B k \/ M = g.E k) /\ p < M /\ M < z) := by
 refine ng (P.nb p z) λ fl Z1 t1 n1 n2 n3 n4 n5 n6 n7 n8 n9 => ?_
 have hh := P.home
 have hnb : ap bF (ac (ak cL (ab 0)) (ac (ab 1) (ac (ab 2) aj))) [some (.ref g.hm), some (.int p), some (.int z), some (.int z), none, none] Z = some (.ref fl, Z1) :=
  bo (vs := [.ref g.tr, .int p, .int z]) (Z0 := Z) (by exact aI (aB (aw rfl) hh rfl rfl) (aI (aw rfl) (aI (aw rfl) bZ))) n1
 generalize hσ2 : Z1.set fl (.flist (((t.inord 0).filter (gq p z)).map (λ it => .ref it.id))) = Z2
 have hit : cn (.ref fl) Z1 = some (((t.inord 0).filter (gq p z)).map (λ it => PV.ref it.id), Z2) := by rw [eO n8, hσ2]
 have o2 : ∀ a, a ≠ fl -> Z2.objs a = Z1.objs a := λ a ha => by rw [<- hσ2, aT, if_neg ha]
 have x2 : Z2.next = Z1.next := by rw [<- hσ2]; rfl
 have hin : ∀ it ∈ (t.inord 0).filter (gq p z), it.id < Z.next := λ it h => by
  refine bN (P.itOf (List.mem_filter.mp h).1) λ k1 k2 k3 => ?_
  rw [k3]; exact P.lnd _ k1
 obtain ⟨n', y', hlo⟩ := xp (Z := Z2) (h := some (.ref g.hm)) (z := some (.int z)) (p := p) ((t.inord 0).filter (gq p z)) z none none (λ it h => by
  refine br (n9 it h) λ ws ho => ?_
  have hid := hin it h
  exact sc _ _ ((o2 _ (by exact Nat.ne_of_lt (Nat.lt_of_lt_of_le (by assumption) (by assumption)))).trans ho))
 refine bN (As p ((t.inord 0).filter (gq p z)) z) λ f1 f2 f3 => ?_
 have P2 : PS Z2 g t1 := P.move n2 (λ a ha => o2 a (by exact Nat.ne_of_lt (Nat.lt_of_lt_of_le (by assumption) (by assumption)))) (by lia)
 refine yl (mT p z ((t.inord 0).filter (gq p z))) Z2 t1 ?_ P2 ⟨by have := n3.next; lia, λ a h1 h2 => by rw [o2 a (by exact Nat.ne_of_lt (Nat.lt_of_lt_of_le (by assumption) (by assumption)))]; exact n3.old a h1 h2⟩ f1 (λ k hk hl x hx q1 q2 => ?_) ?_
 ·unfold cD bg
  show cb (d0 [some (.ref g.hm), some (.int p), some (.int z), none, none, none] Z) _ = _
  unfold d0
  rw [aD (fr1 := [some (.ref g.hm), some (.int p), some (.int z), some (.int z), none, none]) (Z1 := Z) rfl (aD (fr1 := [some (.ref g.hm), some (.int p), some (.int z), some (.int (mT p z ((t.inord 0).filter (gq p z)))), n', y']) (Z1 := Z2) (by
   unfold eX
   rw [aG hnb]
   show (match cn (.ref fl) Z1 with | some (vs, Z2) => _ | none => none) = _
   rw [hit]
   exact hlo) (bv (v := .int (mT p z ((t.inord 0).filter (gq p z)))) (fr1 := [some (.ref g.hm), some (.int p), some (.int z), some (.int (mT p z ((t.inord 0).filter (gq p z)))), n', y']) (Z1 := Z2) rfl))]
  rfl
 ·refine f2 (g.it k) (List.mem_filter.mpr ⟨P.itMem hk hl, ?_⟩) x hx q1
  have hbe := P.be k hk hl
  show (decide (g.B k <= z) && decide (p <= g.E k)) = true
  rw [Bool.and_eq_true, decide_eq_true_eq, decide_eq_true_eq]
  rcases hx with rfl | rfl <;> exact ⟨by lia, by lia⟩
 ·rcases f3 with f3 | ⟨it, k1, k2, k3, k4⟩
  ·exact .inl f3
  ·refine bN (P.itOf (List.mem_filter.mp k1).1) λ j1 j2 j3 => ?_
   rw [j3] at k2
   exact .inr ⟨gd it, j1, j2, k2, k3, k4⟩
noncomputable def jz (p m x : Int) : Int := if m < x /\ x < p then x else m
noncomputable def mJ (p : Int) : Int -> List It -> Int
 | m, [] => m
 | m, it :: I => mJ p (jz p (jz p m it.b) it.e) I
theorem uB (p m x : Int) : m <= jz p m x /\ (x < p -> x <= jz p m x) /\ (jz p m x = m \/ (jz p m x = x /\ x < p /\ m < x)) := by
 unfold jz
 split
 ·rename_i q
  exact ⟨Int.le_of_lt q.1, λ _ => Int.le_refl _, .inr ⟨rfl, q.2, q.1⟩⟩
 ·rename_i q
  exact ⟨Int.le_refl _, λ h => Int.not_lt.mp λ z => q ⟨z, h⟩, .inl rfl⟩
theorem Fp (p m : Int) (it : It) (I : List It) : mJ p m (it :: I) = mJ p (jz p (jz p m it.b) it.e) I := rfl
theorem A5 (p : Int) (I : List It) : ∀ (m : Int), m <= mJ p m I /\ (∀ it ∈ I, ∀ x, x = it.b \/ x = it.e -> x < p -> x <= mJ p m I) /\ (mJ p m I = m \/ ∃ it ∈ I, (mJ p m I = it.b \/ mJ p m I = it.e) /\ mJ p m I < p /\ m < mJ p m I) := by
 induction I with
 | nil => exact λ m => ⟨Int.le_refl _, (λ _ h => absurd h List.not_mem_nil), .inl rfl⟩
 | cons it I ih =>
  intro m
  rw [Fp]
  refine bN (ih (jz p (jz p m it.b) it.e)) λ h1 h2 h3 => ?_
  refine bN (uB p m it.b) λ a1 a2 a3 => ?_
  refine bN (uB p (jz p m it.b) it.e) λ b1 b2 b3 => ?_
  generalize mJ p (jz p (jz p m it.b) it.e) I = M at h1 h2 h3 |-; revert M; refine qQ ?_; intro M h1 h2 h3
  generalize jz p (jz p m it.b) it.e = m2 at h1 h2 h3 b1 b2 b3; revert m2; refine qQ ?_; intro m2 h1 h3 b1 b2 b3
  generalize jz p m it.b = m1 at a1 a2 a3 b1 b2 b3; revert m1; refine qQ ?_; intro m1 a1 a2 a3 b1 b3
  have b4 := Int.le_trans a1 b1
  exact ⟨Int.le_trans b4 h1, λ z hz x hx hin => (List.mem_cons.mp hz).elim (λ q => hx.elim (λ hx => Int.le_trans (Int.le_trans (by rw [q] at hx; rw [hx] at hin |-; exact a2 hin) b1) h1) λ hx => Int.le_trans (by rw [q] at hx; rw [hx] at hin |-; exact b2 hin) h1) λ q => h2 z q x hx hin,
   h3.elim (λ h3 => b3.elim (λ b3 => a3.elim (λ a3 => .inl (h3.trans (b3.trans a3))) λ a3 => .inr (cC it (List.mem_cons_self ..) (by rw [h3, b3, a3.1]; exact ⟨.inl rfl, a3.2⟩))) λ b3 => .inr (cC it (List.mem_cons_self ..) (by rw [h3, b3.1]; exact ⟨.inr rfl, b3.2.1, Int.lt_of_le_of_lt a1 b3.2.2⟩))) λ h3 => .inr (ke h3 λ z k1 k2 k3 k4 => cC z (List.mem_cons_of_mem _ k1) ⟨k2, k3, Int.lt_of_le_of_lt b4 k4⟩)⟩
def GF : ag -> M (FR × ag) := (ai (cX (aY (ab 3) (cH iN (ab 5) (az iN (ab 1)))) (ai (aF 3 (ab 5)) aA) aA) aA)
theorem xy {Z : St} {h nd z : Option PV} {p m x : Int} : GF [h, some (.int p), z, some (.int m), nd, some (.int x)] Z = some ((.next, [h, some (.int p), z, some (.int (jz p m x)), nd, some (.int x)]), Z) := by
 have ht {fr : ag} (h1 : fr[5]? = some (some (.int x))) (h2 : fr[1]? = some (some (.int p))) (h3 : fr[3]? = some (some (.int m))) : aY (ab 3) (cH iN (ab 5) (az iN (ab 1))) fr Z = some (decide (m < x) && decide (x < p), Z) := fF (aw h3) (fn (aw h1) rfl (dx (aw h2) rfl))
 unfold jz
 by_cases q : m < x /\ x < p
 ·rw [if_pos q]
  exact aD (tO ((ht rfl rfl rfl).trans (by rw [decide_eq_true q.1, decide_eq_true q.2]; rfl)) (aD (fA (aw rfl)) cG)) cG
 ·rw [if_neg q]
  exact av (tq ((ht rfl rfl rfl).trans (by rw [<- Bool.decide_and, decide_eq_false q])) cG) cG
def Fz : ag -> M (FR × ag) := (ai (eX 5 (fS (ac (ak aX (ab 4)) (ac (ak bx (ab 4)) aj))) GF) aA)
theorem BI {Z : St} {h y z : Option PV} {p m : Int} {n : Nat} {w0 : PV} {ws : List PV} {b e : Int} (ho : Z.objs n = .inst 0 (w0 :: .int b :: .int e :: ws)) :
  Fz [h, some (.int p), z, some (.int m), some (.ref n), y] Z = some ((.next, [h, some (.int p), z, some (.int (jz p (jz p m b) e)), some (.ref n), some (.int e)]), Z) := by
 have ht : fS (ac (ak aX (ab 4)) (ac (ak bx (ab 4)) aj)) [h, some (.int p), z, some (.int m), some (.ref n), y] Z = some (.tup [.int b, .int e], Z) := ip (aI (aB (aw rfl) ho rfl rfl) (aI (aB (aw rfl) ho rfl rfl) bZ)) (show 2 <= 1000 by decide)
 exact aD (q7 ht (show 2 <= 1000 by decide) (gD xy (gD xy rfl))) cG
theorem xY {Z : St} {h z : Option PV} {p : Int} : ∀ (I : List It) (m : Int) (n y : Option PV), (∀ it ∈ I, ∃ w0 ws, Z.objs it.id = .inst 0 (w0 :: .int it.b :: .int it.e :: ws)) ->
  ∃ n' y', gC 4 Fz (I.map (λ it => PV.ref it.id)) [h, some (.int p), z, some (.int m), n, y] Z = some ((.next, [h, some (.int p), z, some (.int (mJ p m I)), n', y']), Z)
 | [], m, n, y, _ => ⟨n, y, rfl⟩
 | it :: I, m, n, y, hI => by
  refine fj (hI it (List.mem_cons_self ..)) λ w0 ws ho => ?_
  obtain ⟨n', y', h1⟩ := xY I (jz p (jz p m it.b) it.e) (some (.ref it.id)) (some (.int it.e)) (λ x hx => hI x (List.mem_cons_of_mem _ hx))
  refine ⟨n', y', ?_⟩
  show cb (Fz [h, some (.int p), z, some (.int m), some (.ref it.id), y] Z) _ = _
  rw [aG (BI ho)]
  exact h1
theorem Fv {Z : St} {g : G} {t : T} (P : PS Z g t) (p z : Int) : ∃ (M : Int) (Z' : St) (t' : T), bY [.ref g.hm, .int p, .int z] Z = some (.int M, Z') /\ PS Z' g t' /\ nh g Z Z' /\ z <= M /\ (∀ k, k < g.N -> g.lv k = true -> ∀ x, x = g.B k \/ x = g.E k -> x < p -> z < x -> x <= M) /\ (M = z \/ ∃ k, k < g.N /\ g.lv k = true /\ (M = g.B k \/ M = g.E k) /\ M < p /\ z < M) := by
 refine ng (P.nb z p) λ fl Z1 t1 n1 n2 n3 n4 n5 n6 n7 n8 n9 => ?_
 have hh := P.home
 have hnb : ap bF (ac (ak cL (ab 0)) (ac (ab 2) (ac (ab 1) aj))) [some (.ref g.hm), some (.int p), some (.int z), some (.int z), none, none] Z = some (.ref fl, Z1) :=
  bo (vs := [.ref g.tr, .int z, .int p]) (Z0 := Z) (aI (aB (aw rfl) hh rfl rfl) (aI (aw rfl) (aI (aw rfl) bZ))) n1
 generalize hσ2 : Z1.set fl (.flist (((t.inord 0).filter (gq z p)).map (λ it => .ref it.id))) = Z2; revert Z2; refine qQ ?_; intro Z2 hσ2
 have hit : cn (.ref fl) Z1 = some (((t.inord 0).filter (gq z p)).map (λ it => PV.ref it.id), Z2) := by rw [eO n8, hσ2]
 have o2 : ∀ a, a ≠ fl -> Z2.objs a = Z1.objs a := λ a ha => by rw [<- hσ2, aT, if_neg ha]
 have x2 : Z2.next = Z1.next := by rw [<- hσ2]; rfl
 have hin : ∀ it ∈ (t.inord 0).filter (gq z p), it.id < Z.next := λ it h => by
  refine bN (P.itOf (List.mem_filter.mp h).1) λ k1 k2 k3 => ?_
  rw [k3]; exact P.lnd _ k1
 obtain ⟨n', y', hlo⟩ := xY (Z := Z2) (h := some (.ref g.hm)) (z := some (.int z)) (p := p) ((t.inord 0).filter (gq z p)) z none none (λ it h => by
  refine br (n9 it h) λ ws ho => ?_
  have hid := hin it h
  exact sc _ _ ((o2 _ (by exact Nat.ne_of_lt (Nat.lt_of_lt_of_le (by assumption) (by assumption)))).trans ho))
 refine bN (A5 p ((t.inord 0).filter (gq z p)) z) λ f1 f2 f3 => ?_
 have P2 : PS Z2 g t1 := P.move n2 (λ a ha => o2 a (by exact Nat.ne_of_lt (Nat.lt_of_lt_of_le (by assumption) (by assumption)))) (by lia)
 refine yl (mJ p z ((t.inord 0).filter (gq z p))) Z2 t1 ?_ P2 ⟨by have := n3.next; lia, λ a h1 h2 => by rw [o2 a (by exact Nat.ne_of_lt (Nat.lt_of_lt_of_le (by assumption) (by assumption)))]; exact n3.old a h1 h2⟩ f1 (λ k hk hl x hx q1 q2 => ?_) ?_
 ·unfold bY bg
  show cb (dw [some (.ref g.hm), some (.int p), some (.int z), none, none, none] Z) _ = _
  unfold dw
  rw [aD (fr1 := [some (.ref g.hm), some (.int p), some (.int z), some (.int z), none, none]) (Z1 := Z) rfl (aD (fr1 := [some (.ref g.hm), some (.int p), some (.int z), some (.int (mJ p z ((t.inord 0).filter (gq z p)))), n', y']) (Z1 := Z2) (by
   unfold eX
   rw [aG hnb]
   show (match cn (.ref fl) Z1 with | some (vs, Z2) => _ | none => none) = _
   rw [hit]
   exact hlo) (bv (v := .int (mJ p z ((t.inord 0).filter (gq z p)))) (fr1 := [some (.ref g.hm), some (.int p), some (.int z), some (.int (mJ p z ((t.inord 0).filter (gq z p)))), n', y']) (Z1 := Z2) rfl))]
  rfl
 ·refine f2 (g.it k) (List.mem_filter.mpr ⟨P.itMem hk hl, ?_⟩) x hx q1
  have hbe := P.be k hk hl
  show (decide (g.B k <= p) && decide (z <= g.E k)) = true
  rw [Bool.and_eq_true, decide_eq_true_eq, decide_eq_true_eq]
  rcases hx with rfl | rfl <;> exact ⟨by lia, by lia⟩
 ·rcases f3 with f3 | ⟨it, k1, k2, k3, k4⟩
  ·exact .inl f3
  ·refine bN (P.itOf (List.mem_filter.mp k1).1) λ j1 j2 j3 => ?_
   rw [j3] at k2
   exact .inr ⟨gd it, j1, j2, k2, k3, k4⟩
section
def G.shut (g : G) (a m : Int) : G := { g with B := λ k => et a m (g.B k), E := λ k => et a m (g.E k) }
noncomputable def G.goneL : List Nat -> G -> G
 | [], g => g
 | k :: L, g => G.goneL L (g.gone k (decide (g.B k = g.E k) && g.fl k))
theorem xu : ∀ (L : List Nat) (g : G), G.goneL L g = { g with lv := (G.goneL L g).lv }
 | [], g => rfl
 | k :: L, g => by
  show G.goneL L _ = { g with lv := (G.goneL L _).lv }
  rw [xu L]
  rfl
theorem yx : ∀ (L : List Nat) (g : G) (j : Nat), (G.goneL L g).lv j = (g.lv j && !(decide (j ∈ L) && (decide (g.B j = g.E j) && g.fl j)))
 | [], g, j => by show g.lv j = _; simp
 | k :: L, g, j => by
  show (G.goneL L _).lv j = _
  rw [yx L]
  show ((if j = k then g.lv j && !(decide (g.B k = g.E k) && g.fl k) else g.lv j) && !(decide (j ∈ L) && (decide (g.B j = g.E j) && g.fl j))) = _
  by_cases h : j = k
  ·subst h
   cases g.lv j <;> cases decide (g.B j = g.E j) <;> cases g.fl j <;> simp
  ·rw [if_neg h]
   simp only [List.mem_cons, h, false_or]
section
variable {Z Z' : St} {g : G} {t t' : T}
theorem PS.shut (P : PS Z g t) {a m : Int} (hm : 0 < m) (F : xU Z t.ids Z') (hT : jX Z' g.tr t') (hub : t'.UB) (hs : t'.shape ∈ LS) (hi : t'.inord 0 = (t.inord 0).map (zh a m)) : PS Z' (g.shut a m) t' := by
 have o : ∀ x, x < Z.next -> (g.tag x).1 ≠ 6 -> Z'.objs x = Z.objs x := λ x h1 h3 => F.old x h1 (λ q => by
  refine cj (P.tids q) λ k k1 _ qq1 => ?_; obtain rfl := qq1
  exact h3 (by rw [P.tnd k k1]))
 refine fj P.rules λ lp df hr => ?_
 refine br P.dict λ D hD => ?_
 refine ⟨?_, ⟨lp, df, ?_⟩, hT, hub, hs, ?_, λ it => ?_, λ k hk hl => rP hm (P.be k hk hl), ⟨D, ?_, hD.2⟩, λ k hk => ?_, λ k hk => ?_, λ k hk hl => ?_, P.thm, P.tru, P.ttr, P.tod, P.tov, P.tnd, P.tpl, Nat.lt_of_lt_of_le P.lhm F.next, Nat.lt_of_lt_of_le P.lru F.next, Nat.lt_of_lt_of_le P.lod F.next, λ k hk => Nat.lt_of_lt_of_le (P.lov k hk) F.next, λ k hk => Nat.lt_of_lt_of_le (P.lnd k hk) F.next, λ k hk => Nat.lt_of_lt_of_le (P.lpl k hk) F.next⟩
 ·show Z'.objs g.hm = _
  rw [o _ P.lhm (cw P.thm (by decide))]; exact P.home
 ·show Z'.objs g.ru = _
  rw [o _ P.lru (cw P.tru (by decide))]; exact hr
 ·rw [hi]
  exact List.pairwise_map.mpr (List.Pairwise.imp (λ h => rP hm h) P.sorted)
 ·rw [hi, List.mem_map]
  constructor
  ·intro qq1; refine aQ qq1 λ x h1 qq2 => ?_; obtain rfl := qq2
   refine cj ((P.items x).mp h1) λ k h2 h3 qq2 => ?_; obtain rfl := qq2
   exact ⟨k, h2, h3, rfl⟩
  ·intro qq3; refine cj qq3 λ k h2 h3 qq4 => ?_; obtain rfl := qq4
   exact ⟨g.it k, P.itMem h2 h3, rfl⟩
 ·show Z'.objs g.od = _
  rw [o _ P.lod (cw P.tod (by decide))]; exact hD.1
 ·show Z'.objs (g.ov k) = _
  rw [o _ (P.lov k hk) (cw (P.tov k hk) (by decide))]; exact P.over k hk
 ·show Z'.objs (g.pl k) = _
  rw [o _ (P.lpl k hk) (cw (P.tpl k hk) (by decide))]; exact P.plist k hk
 ·show sR k (Z'.objs (g.nd k))
  rw [F.old _ (P.lnd k hk) (P.ndNot hk hl)]
  exact P.node k hk hl
def vT : ag -> M (FR × ag) := (ai (cX (c9 (aY (ak aX (ak bW (ab 3))) (az fq (ak bx (ak bW (ab 3))))) (c9 (bz (ap cA (ac (ak dy (ab 0)) (ac (ab 3) aj)))) cR)) (ai (bi (ap cF (ac (ab 3) aj)))
  aA) aA)
  aA)
theorem Ed (P : PS Z g t) {k : Nat} (hk : k < g.N) (hl : g.lv k = true) (x1 x2 : Option PV) :
  ∃ Z' t', vT [some (.ref g.hm), x1, x2, some (.ref (g.ov k))] Z = some ((.next, [some (.ref g.hm), x1, x2, some (.ref (g.ov k))]), Z') /\ PS Z' (g.gone k (decide (g.B k = g.E k) && g.fl k)) t' /\ nh g Z Z' := by
 have hh := P.home
 have ho := P.over k hk
 refine iV (rg P.tree.sub (g.it k) (P.itMem hk hl)) λ b e ws hn hbe => ?_
 have hn' : Z.objs (g.nd k) = .inst 0 (.int k :: .int b :: .int e :: ws) := hn
 have hbe' : e - b = g.E k - g.B k := hbe
 have an : ak bW (ab 3) [some (.ref g.hm), x1, x2, some (.ref (g.ov k))] Z = some (.ref (g.nd k), Z) := aB (i := g.ov k) rfl ho rfl rfl
 have t1 : aY (ak aX (ak bW (ab 3))) (az fq (ak bx (ak bW (ab 3)))) [some (.ref g.hm), x1, x2, some (.ref (g.ov k))] Z = some (decide (g.B k = g.E k), Z) := by
  unfold aY az
  rw [aG (aB an hn' rfl rfl), aG (aB an hn' rfl rfl)]
  show some (decide (b = e), Z) = _
  congr 2
  exact decide_eq_decide.mpr ⟨λ h => by lia, λ h => by lia⟩
 have t2 : ap cA (ac (ak dy (ab 0)) (ac (ab 3) aj)) [some (.ref g.hm), x1, x2, some (.ref (g.ov k))] Z = some (.bool (g.fl k), Z) :=
  bo (vs := [.ref g.ru, .ref (g.ov k)]) (Z0 := Z) (aI (aB (i := g.hm) rfl hh rfl rfl) rfl) (P.fleet hk)
 have ht : (c9 (aY (ak aX (ak bW (ab 3))) (az fq (ak bx (ak bW (ab 3))))) (c9 (bz (ap cA (ac (ak dy (ab 0)) (ac (ab 3) aj)))) cR)) [some (.ref g.hm), x1, x2, some (.ref (g.ov k))] Z = some (decide (g.B k = g.E k) && g.fl k, Z) := by
  unfold c9 bz
  rw [aG t1, aG (aG t2)]
  cases decide (g.B k = g.E k) <;> cases g.fl k <;> rfl
 unfold vT
 cases hc : (decide (g.B k = g.E k) && g.fl k) with
 | false =>
  rw [nw]
  exact kc Z t (av (Z1 := Z) (by unfold cX; rw [ht, hc]; rfl) rfl) P .refl
 | true =>
  rw [pQ]
  refine ed (mG P hk hl) λ Z2 t2' k1 k2 k3 _ => ?_
  exact kc Z2 t2' (av (Z1 := Z2) (by unfold cX; rw [ht, hc]; exact av (cv (vs := [.ref (g.ov k)]) (Z0 := Z) rfl k1) rfl) rfl) k2 k3
theorem Ab (x1 x2 : Option PV) : ∀ (L : List Nat) {Z : St} {g : G} {t : T} (y : Option PV), PS Z g t -> L.Nodup -> (∀ k ∈ L, k < g.N /\ g.lv k = true) ->
  ∃ Z' t' y', gC 3 vT (L.map (λ k => PV.ref (g.ov k))) [some (.ref g.hm), x1, x2, y] Z = some ((.next, [some (.ref g.hm), x1, x2, y']), Z') /\ PS Z' (G.goneL L g) t' /\ nh g Z Z'
 | [], Z, g, t, y, P, _, _ => ⟨Z, t, y, rfl, P, .refl⟩
 | k :: L, Z, g, t, y, P, hn, hL => by
  rw [List.nodup_cons] at hn
  refine bK (hL k (List.mem_cons_self ..)) λ h1 h2 => ?_
  refine gX (Ed P h1 h2 x1 x2) λ Z1 t1 e1 e2 e3 => ?_
  obtain ⟨Z2, t2, y2, f1, f2, f3⟩ := Ab x1 x2 L (some (.ref (g.ov k))) e2 hn.2 (λ j hj => by
   refine bK (hL j (List.mem_cons_of_mem _ hj)) λ q1 q2 => ?_
   refine ⟨q1, ?_⟩
   have : j ≠ k := λ q => hn.1 (by rw [<- q]; exact hj)
   show (if j = k then _ else g.lv j) = true
   rw [if_neg this]; exact q2)
  refine EU Z2 t2 y2 ?_ f2 (e3.trans ⟨f3.next, λ a h1 h2 => f3.old a h1 h2⟩)
  show cb (vT [some (.ref g.hm), x1, x2, some (.ref (g.ov k))] Z) _ = _
  rw [aG e1]
  exact f1
theorem BO (P : PS Z g t) {a b : Int} (hab : a < b) : ∃ (p : PV) (Z' : St) (t' : T) (L : List Nat), cE [.ref g.hm, .int a, .int b] Z = some (p, Z') /\ PS Z' (G.goneL L (g.shut a (b - a))) t' /\ nh g Z Z' /\ ∀ k, k ∈ L ↔ k < g.N /\ g.lv k = true /\ et a (b - a) (g.B k) <= a /\ a <= et a (b - a) (g.E k) := by
 have hm : 0 < b - a := by lia
 have hh := P.home
 have hbe : ∀ it ∈ t.inord 0, it.b <= it.e := λ it h => by
  refine bN (P.itOf h) λ k1 k2 k3 => ?_
  have := P.be _ k1 k2
  rw [k3]; exact this
 refine Es (El (a := a) (m := b - a) P.tree P.ub P.shape P.sorted hbe hm) λ Z1 t1 c1 c2 c3 c4 c5 c6 => ?_
 have P1 := P.shut hm c6 c2 c5 c3 c4
 have U1 : nh g Z Z1 := ⟨c6.next, λ x h1 h2 => c6.old x h1 (λ q => P.far_not (by lia) (by lia) (List.mem_cons_of_mem _ q))⟩
 refine ng (P1.nb a a) λ fl Z2 t2 n1 n2 n3 n4 n5 n6 n7 n8 n9 => ?_
 have hl6 : ((t1.inord 0).filter (gq a a)).length <= 6 := Nat.le_trans (List.length_filter_le _ _) P1.len
 refine gJ (vH (Z0 := Z1) P1 n2 (I := (t1.inord 0).filter (gq a a)) (λ it h => by rw [n6]; exact (List.mem_filter.mp h).1) (by lia) n8 n4 n5) λ Z3 e1 e2 e3 e4 e5 => ?_
 refine bK (P1.pick (gq a a)) λ k1 k2 => ?_
 have hlist : Z3.objs Z2.next = .list ((((t1.inord 0).filter (gq a a)).map gd).map (λ k => .ref (g.ov k))) := by rw [e5, List.map_map]; rfl
 generalize hL : ((t1.inord 0).filter (gq a a)).map gd = L at k1 k2 hlist
 generalize hσ4 : Z3.set Z2.next (.flist (L.map (λ k => .ref (g.ov k)))) = Z4
 have o4 : ∀ x, x < Z2.next -> Z4.objs x = Z3.objs x := λ x hx => by rw [<- hσ4, aT, if_neg (by exact Nat.ne_of_lt (by assumption))]
 have x4 : Z4.next = Z3.next := by rw [<- hσ4]; rfl
 have P4 : PS Z4 (g.shut a (b - a)) t2 := P1.move e2 (λ x hx => o4 x (by have := n3.next; exact Nat.le_trans (by assumption) (by assumption))) (by lia)
 refine Aa (Ab (some (.int a)) (some (.int (b - a))) L none P4 k1 (λ k hk => by have := (k2 k).mp hk; exact ⟨this.1, this.2.1⟩)) λ Z5 t5 y5 f1 f2 f3 => ?_
 have hit : cn (.ref Z2.next) Z3 = some (L.map (λ k => PV.ref (g.ov k)), Z4) := by rw [eO hlist, hσ4]
 have hh1 : Z1.objs g.hm = .inst 3 [.ref g.tr, .ref g.od, .ref g.ru] := P1.home
 have hrun : iC [.ref g.hm, .int a, .int (b - a)] Z = some (.none, Z5) := by
  unfold iC bg
  show cb (jJ [some (.ref g.hm), some (.int a), some (.int (b - a)), none] Z) _ = _
  unfold jJ
  rw [av (cv (vs := [.ref g.tr, .int a, .int (b - a)]) (Z0 := Z) (aI (aB (i := g.hm) rfl hh rfl rfl) rfl) c1) (aD (Z1 := Z5) (fr1 := [some (.ref g.hm), some (.int a), some (.int (b - a)), y5]) (by
   unfold eX
   rw [aG (bo (vs := [.ref g.hm, .ref fl]) (Z0 := Z2) (aI rfl (aI (bo (vs := [.ref g.tr, .int a, .int a]) (Z0 := Z1) (aI (aB (i := g.hm) rfl hh1 rfl rfl) rfl) n1) rfl)) e1)]
   show (match cn (.ref Z2.next) Z3 with | some (vs, Z2) => _ | none => none) = _
   rw [hit]
   exact f1) rfl)]
  rfl
 refine nZ .none Z5 t5 L ?_ f2 ⟨?_, λ x h1 h2 => ?_⟩ (λ k => ?_)
 ·unfold cE bg
  show cb (dZ [some (.ref g.hm), some (.int a), some (.int b)] Z) _ = _
  unfold dZ
  rw [av (cv (vs := [.ref g.hm, .int a, .int (b - a)]) (Z0 := Z) rfl hrun) rfl]
  rfl
 ·have u1 := U1.next
  have u2 := n3.next
  have u3 := f3.next
  lia
 ·have u1 := U1.next
  have u2 := n3.next
  have u3 := f3.next
  rw [f3.old x (by lia) h2, o4 x (by lia), e4 x (by lia) (by lia), n3.old x (by exact Nat.le_trans (by assumption) (by assumption)) h2, U1.old x h1 h2]
 ·rw [k2]
  show _ /\ _ /\ ((decide (et a (b - a) (g.B k) <= a) && decide (a <= et a (b - a) (g.E k))) = true) ↔ _
  rw [Bool.and_eq_true, decide_eq_true_eq, decide_eq_true_eq]
  exact Iff.rfl
end
end
section
theorem BX : ∀ {l r : List Int}, l.Pairwise (· < ·) -> r.Pairwise (· < ·) -> (∀ x, x ∈ l ↔ x ∈ r) -> l = r
 | [], [], _, _, _ => rfl
 | [], y :: r, _, _, h => by have := (h y).mpr (List.mem_cons_self ..); cases this
 | x :: l, [], _, _, h => by have := (h x).mp (List.mem_cons_self ..); cases this
 | x :: l, y :: r, h1, h2, h => by
  rw [List.pairwise_cons] at h1 h2
  have e : x = y := by
   rcases List.mem_cons.mp ((h x).mp (List.mem_cons_self ..)) with q | q
   ·exact q
   ·rcases List.mem_cons.mp ((h y).mpr (List.mem_cons_self ..)) with z | z
    ·exact z.symm
    ·have a := h2.1 x q; have b := h1.1 y z; lia
  subst e
  rw [BX h1.2 h2.2 (λ z => ?_)]
  constructor
  ·intro hz
   rcases List.mem_cons.mp ((h z).mp (List.mem_cons_of_mem _ hz)) with q | q
   ·have := h1.1 z hz; lia
   ·exact q
  ·intro hz
   rcases List.mem_cons.mp ((h z).mpr (List.mem_cons_of_mem _ hz)) with q | q
   ·have := h2.1 z hz; lia
   ·exact q
noncomputable def du (N : Nat) (p : Nat -> Bool) : List Int := ((List.range N).filter p).map (λ k : Nat => (k : Int))
theorem za {N : Nat} {p : Nat -> Bool} {x : Int} : x ∈ du N p ↔ ∃ k, k < N /\ p k = true /\ x = (k : Int) := by
 unfold du
 rw [List.mem_map]
 constructor
 ·intro qq1; refine aQ qq1 λ k h qq2 => ?_; obtain rfl := qq2
  rw [List.mem_filter, List.mem_range] at h
  exact fk k h.1 h.2 rfl
 ·intro qq3; refine cj qq3 λ k h1 h2 qq4 => ?_; obtain rfl := qq4
  exact cC k (by rw [List.mem_filter, List.mem_range]; exact ⟨h1, h2⟩) rfl
theorem A8 (N : Nat) (p : Nat -> Bool) : (du N p).Pairwise (· < ·) := by
 unfold du
 rw [List.pairwise_map]
 exact ((List.pairwise_lt_range (n := N)).sublist List.filter_sublist).imp (λ h => by omega)
theorem rG (N : Nat) (p : Nat -> Bool) : (du N p).length <= N := by
 unfold du
 rw [List.length_map]
 have := List.length_filter_le p (List.range N)
 rw [List.length_range] at this
 exact this
theorem nu {l : List Int} {N : Nat} {p : Nat -> Bool} (hn : l.Nodup) (h : ∀ x, x ∈ l ↔ ∃ k, k < N /\ p k = true /\ x = (k : Int)) : nj l = du N p := by
 have hp := List.mergeSort_perm l (λ a b => decide (a <= b))
 have hs := List.pairwise_mergeSort (le := λ a b : Int => decide (a <= b)) (λ a b c h1 h2 => by simp at *; lia) (λ a b => by simp; lia) l
 have hn' : (nj l).Nodup := hp.symm.nodup hn
 refine BX ?_ (A8 N p) (λ x => ?_)
 ·have h2 : (nj l).Pairwise (λ a b => a <= b /\ a ≠ b) := by
   rw [List.pairwise_and_iff]
   exact ⟨hs.imp (λ h => by simpa using h), hn'⟩
  exact h2.imp (λ h => by lia)
 ·rw [za, <- h]
  exact hp.mem_iff
structure gW (Z : St) (g : G) (ol : Nat) (w : Nat -> Option (Int × Int × Bool)) (D : List (Int × PV)) : Prop where
 nd : (D.map (·.1)).Nodup
 get : ∀ k b e f, w k = some (b, e, f) -> ∃ r, gL D k = some (.ref r) /\ ol < r /\ r < Z.next /\ 10 <= (g.tag r).1 /\ Z.objs r = .list [.int b, .int e, .bool f]
 mem : ∀ kv ∈ D, ∃ k : Nat, kv.1 = k /\ (w k).isSome = true
 lt : ∀ k, (w k).isSome = true -> k < g.N
noncomputable def Gs (z : Bool) (D : List (Int × PV)) : ee := if z then .fdict D else .dict D
structure zW where
 dk : Nat
 dr : Nat
 ow : Nat
 ol : Nat
structure Lw (Z : St) (g : G) (t : T) (A : zW) (j : Int) (w : Nat -> Option (Int × Int × Bool)) (z : Bool) (nV : Nat) : Prop where
 ps : PS Z g t
 fr : ∀ a, Z.next <= a -> 10 <= (g.tag a).1
 tdk : 10 <= (g.tag A.dk).1
 tdr : 10 <= (g.tag A.dr).1
 tow : 10 <= (g.tag A.ow).1
 tol : 10 <= (g.tag A.ol).1
 o1 : A.dr < A.dk
 o2 : A.dk < A.ow
 o3 : A.ow < A.ol
 o4 : A.ol < Z.next
 dk : Z.objs A.dk = .list [.ref A.dr, .int j]
 dr : ∃ ks : List Int, ks.length <= 63 /\ Z.objs A.dr = .list (ks.map .int)
 j0 : 0 <= j
 own : ∃ D, Z.objs A.ow = Gs z D /\ gW Z g A.ol w D
 ol : Z.objs A.ol = .list ((List.range nV).map (λ k => .ref (g.ov k)))
 nV : nV <= g.N
 nN : g.N <= 6
section
variable {Z Z' : St} {g g' : G} {t t' : T} {A : zW} {j j' : Int} {w w' : Nat -> Option (Int × Int × Bool)} {z z' : Bool} {nV nV' : Nat} {D : List (Int × PV)} {ol : Nat}
theorem PS.law (P : PS Z g t) (h : ∀ a, a < Z.next -> (g.tag a).1 < 10 -> Z'.objs a = Z.objs a) (hn : Z.next <= Z'.next) : PS Z' g t := by
 refine fj P.rules λ lp df hr => ?_
 refine br P.dict λ D hD => ?_
 have tl : ∀ a ∈ t.ids, a < Z.next /\ (g.tag a).1 < 10 := λ a ha => by
  refine cj (P.tids ha) λ k h1 _ qq1 => ?_; obtain rfl := qq1
  exact ⟨P.lnd k h1, mA (P.tnd k h1) (by decide)⟩
 have trl := P.tree.lt _ (List.mem_cons_self ..)
 refine ⟨(h _ P.lhm (mA P.thm (by decide))).trans P.home, ⟨lp, df, (h _ P.lru (mA P.tru (by decide))).trans hr⟩, ⟨?_, Sub.of (λ a ha => h a (tl a ha).1 (tl a ha).2) P.tree.sub, P.tree.nodup, λ a ha => Nat.lt_of_lt_of_le (P.tree.lt a ha) hn⟩, P.ub, P.shape, P.sorted, P.items, P.be, ⟨D, (h _ P.lod (mA P.tod (by decide))).trans hD.1, hD.2⟩, λ k hk => (h _ (P.lov k hk) (mA (P.tov k hk) (by decide))).trans (P.over k hk), λ k hk => (h _ (P.lpl k hk) (mA (P.tpl k hk) (by decide))).trans (P.plist k hk), λ k hk hl => by rw [h _ (P.lnd k hk) (mA (P.tnd k hk) (by decide))]; exact P.node k hk hl, P.thm, P.tru, P.ttr, P.tod, P.tov, P.tnd, P.tpl, Nat.lt_of_lt_of_le P.lhm hn, Nat.lt_of_lt_of_le P.lru hn, Nat.lt_of_lt_of_le P.lod hn, λ k hk => Nat.lt_of_lt_of_le (P.lov k hk) hn, λ k hk => Nat.lt_of_lt_of_le (P.lnd k hk) hn, λ k hk => Nat.lt_of_lt_of_le (P.lpl k hk) hn⟩
 refine br P.tree.root λ cnt hc => ?_
 exact ⟨cnt, (h _ trl (mA P.ttr (by decide))).trans hc⟩
theorem gW.mono (H : gW Z g ol w D) (ht : ∀ a, a < Z.next -> (g'.tag a) = (g.tag a)) (hN : g.N <= g'.N) (hn : Z.next <= Z'.next) (h : ∀ a, a < Z.next -> ol < a -> 10 <= (g.tag a).1 -> Z'.objs a = Z.objs a) : gW Z' g' ol w D :=
 ⟨H.nd, λ k b e f q => by
  refine gJ (H.get k b e f q) λ r h1 h2 h3 h4 h5 => ?_
  exact ri r h1 h2 (Nat.lt_of_lt_of_le h3 hn) (by rw [ht r h3]; exact h4) ((h r h3 h2 h4).trans h5), H.mem, λ k q => Nat.lt_of_lt_of_le (H.lt k q) hN⟩
theorem gW.len (H : gW Z g ol w D) : D.length <= g.N := by
 have hnn : (D.map (λ kv => kv.1.toNat)).Nodup := by
  have h2 := H.nd
  rw [List.nodup_iff_pairwise_ne, List.pairwise_map] at h2 |-
  refine List.Pairwise.imp_of_mem (λ {a b} ha hb hab q => hab ?_) h2
  refine aQ (H.mem a ha) λ i hi _ => ?_
  refine aQ (H.mem b hb) λ j hj _ => ?_
  rw [hi, hj] at q |-
  simp at q
  rw [q]
 have := oO (R := List.range g.N) hnn λ x hx => by
  refine aQ (List.mem_map.mp hx) λ kv hkv qq2 => ?_; obtain rfl := qq2
  refine aQ (H.mem kv hkv) λ i e hi => ?_
  have := H.lt i hi
  rw [e]; simpa using this
 rw [List.length_map, List.length_range] at this
 exact this
theorem gW.keys (H : gW Z g ol w D) (x : Int) : x ∈ D.map (·.1) ↔ ∃ k, k < g.N /\ (w k).isSome = true /\ x = (k : Int) := by
 constructor
 ·intro h
  refine aQ (List.mem_map.mp h) λ kv hkv qq3 => ?_; obtain rfl := qq3
  refine aQ (H.mem kv hkv) λ k h1 h2 => ?_
  exact fk k (H.lt k h2) h2 h1
 ·intro qq5; refine cj qq5 λ k h1 h2 qq6 => ?_; obtain rfl := qq6
  refine br (Option.isSome_iff_exists.mp h2) λ qq4 hw => ?_; obtain ⟨b, e, f⟩ := qq4
  refine aQ (H.get k b e f hw) λ r h3 _ => ?_
  exact List.mem_map.mpr ⟨_, sG h3, rfl⟩
theorem gW.sort (H : gW Z g ol w D) : nj (D.map (·.1)) = du g.N (λ k => (w k).isSome) := nu H.nd H.keys
theorem PS.sort (P : PS Z g t) : ∃ D, Z.objs g.od = .dict D /\ D.length <= g.N /\ nj (D.map (·.1)) = du g.N g.lv := by
 refine gJ P.dlen λ D h1 h2 h3 h4 h5 => ?_
 refine fk D h1 h3 (nu h2 λ x => ?_)
 constructor
 ·intro h
  refine aQ (List.mem_map.mp h) λ kv hkv qq5 => ?_; obtain rfl := qq5
  refine cj (h5 kv hkv) λ k a b c => ?_
  exact fk k a b c
 ·intro qq7; refine cj qq7 λ k a b qq8 => ?_; obtain rfl := qq8
  exact List.mem_map.mpr ⟨_, sG (h4 k a b), rfl⟩
theorem Lw.prog (H : Lw Z g t A j w z nV) (P : PS Z' g' t') (U : nh g Z Z') (ht : ∀ a, a < Z.next -> g'.tag a = g.tag a) (hf : ∀ a, Z'.next <= a -> 10 <= (g'.tag a).1) (hN : g.N <= g'.N) (hN' : g'.N <= 6) (hov : ∀ k, k < g.N -> g'.ov k = g.ov k) : Lw Z' g' t' A j w z nV := by
 have q1 := H.o1
 have q2 := H.o2
 have q3 := H.o3
 have q4 := H.o4
 refine aQ H.own λ D hD hO => ?_
 have hv : (List.range nV).map (λ k => PV.ref (g'.ov k)) = (List.range nV).map (λ k => PV.ref (g.ov k)) := List.map_congr_left λ k hk => by
  rw [hov k (Nat.lt_of_lt_of_le (List.mem_range.mp hk) H.nV)]
 exact ⟨P, hf, by rw [ht _ (by lia)]; exact H.tdk, by rw [ht _ (by lia)]; exact H.tdr, by rw [ht _ (by exact Nat.lt_trans (by assumption) (by assumption))]; exact H.tow, by rw [ht _ (by assumption)]; exact H.tol, q1, q2, q3, Nat.lt_of_lt_of_le q4 U.next, (U.old _ (by lia) H.tdk).trans H.dk,
  (by refine aQ H.dr λ ks h1 h2 => ?_; exact ⟨ks, h1, (U.old _ (by lia) H.tdr).trans h2⟩), H.j0, ⟨D, (U.old _ (by exact Nat.lt_trans (by assumption) (by assumption)) H.tow).trans hD, hO.mono ht hN U.next (λ a h1 _ h2 => U.old a h1 h2)⟩, by rw [hv, U.old _ (by assumption) H.tol]; exact H.ol, Nat.le_trans H.nV hN, hN'⟩
theorem Lw.turn (H : Lw Z g t A j w z nV) (hn : Z.next <= Z'.next) (ho : ∀ a, a < Z.next -> a ≠ A.dk -> a ≠ A.ow -> a ≠ A.ol -> Z'.objs a = Z.objs a) (hdk : Z'.objs A.dk = .list [.ref A.dr, .int j']) (hj : 0 <= j') (how : ∃ D, Z'.objs A.ow = Gs z' D /\ gW Z' g A.ol w' D) (hol : Z'.objs A.ol = .list ((List.range nV').map (λ k => .ref (g.ov k)))) (hnV : nV' <= g.N) : Lw Z' g t A j' w' z' nV' := by
 have q1 := H.o1
 have q2 := H.o2
 have q3 := H.o3
 have q4 := H.o4
 refine ⟨H.ps.law (λ a h1 h2 => ho a h1 (λ q => ?_) (λ q => ?_) (λ q => ?_)) hn, λ a h => H.fr a (Nat.le_trans hn h), H.tdk, H.tdr, H.tow, H.tol, q1, q2, q3, Nat.lt_of_lt_of_le q4 hn, hdk, ?_, hj, how, hol, hnV, H.nN⟩
 ·have := H.tdk; rw [q] at h2; lia
 ·have := H.tow; rw [q] at h2; lia
 ·have := H.tol; rw [q] at h2; lia
 ·refine aQ H.dr λ ks h1 h2 => ?_
  exact ⟨ks, h1, (ho _ (by lia) (by exact Nat.ne_of_lt (by assumption)) (by lia) (by lia)).trans h2⟩
theorem Lw.quiet (H : Lw Z g t A j w z nV) (hn : Z.next <= Z'.next) (ho : ∀ a, a < Z.next -> Z'.objs a = Z.objs a) : Lw Z' g t A j w z nV := by
 have q1 := H.o1
 have q2 := H.o2
 have q3 := H.o3
 have q4 := H.o4
 refine aQ H.own λ D hD hO => ?_
 exact H.turn hn (λ a h _ _ _ => ho a h) ((ho _ (by lia)).trans H.dk) H.j0 ⟨D, (ho _ (by lia)).trans hD, hO.mono (λ _ _ => rfl) (Nat.le_refl _) hn (λ a h1 _ _ => ho a h1)⟩ ((ho _ (by lia)).trans H.ol) H.nV
end
end
section
section
variable {Z Z' : St} {g g' : G} {t t' : T} {A : zW} {j j' : Int} {w w' : Nat -> Option (Int × Int × Bool)} {z z' : Bool} {nV nV' : Nat} {D : List (Int × PV)} {ol : Nat}
theorem eF {a b : ag -> M PV} {fr : ag} {Z Z0 Z1 : St} {l : Nat} {i : Nat} {vs : List PV} {v : PV} (ha : a fr Z0 = some (.ref l, Z1)) (hb : b fr Z1 = some (.int i, Z)) (hl : Z.objs l = .list vs) (hv : vs[i]? = some v) : bp a b fr Z0 = some (v, Z) := by
 unfold bp
 rw [aG ha, aG hb]
 simp only [kT, hl]
 rw [if_pos (Int.natCast_nonneg i), Int.toNat_natCast, hv]
theorem Lw.deck (H : Lw Z g t A j w z nV) : Lw (Z.set A.dk (.list [.ref A.dr, .int (j + 1)])) g t A (j + 1) w z nV := by
 have q1 := H.o1
 have q2 := H.o2
 have q3 := H.o3
 have q4 := H.o4
 have hj := H.j0
 refine aQ H.own λ D hD hO => ?_
 refine H.turn (Nat.le_refl _) (λ a _ h _ _ => by rw [aT, if_neg h]) (if_pos rfl) (by lia) ⟨D, ?_, hO.mono (λ _ _ => rfl) (Nat.le_refl _) (Nat.le_refl _) (λ a _ h _ => by rw [aT, if_neg (by lia)])⟩ ?_ H.nV
 ·rw [aT, if_neg (by exact Nat.ne_of_gt (by assumption))]; exact hD
 ·rw [aT, if_neg (by lia)]; exact H.ol
theorem uw (H : Lw Z g t A j w z nV) {m : Int} (hm : 0 < m) (hj : j <= 900) : ∃ (d : Int) (Z' : St), bd [.ref A.dk, .int m] Z = some (.int d, Z') /\ 0 <= d /\ d < m /\ Lw Z' g t A (j + 1) w z nV := by
 have q1 := H.o1
 have hj0 := H.j0
 have hdk := H.dk
 obtain ⟨ks, hk1, hk2⟩ := H.dr
 have H1 := H.deck
 generalize hσ1 : Z.set A.dk (.list [.ref A.dr, .int (j + 1)]) = Z1 at H1
 have k1 : Z1.objs A.dk = .list [.ref A.dr, .int (j + 1)] := H1.dk
 have k2 : Z1.objs A.dr = .list (ks.map .int) := by rw [<- hσ1, aT, if_neg (by exact Nat.ne_of_lt (by assumption))]; exact hk2
 have s1 : fw (ab 0) (aS 1) (bA dq (bp (ab 0) (aS 1)) (aS 1)) [some (.ref A.dk), some (.int m)] Z = some ((.next, [some (.ref A.dk), some (.int m)]), Z1) := by
  have hi : bp (ab 0) (aS 1) [some (.ref A.dk), some (.int m)] Z = some (.int j, Z) := eF (i := 1) rfl rfl hdk rfl
  have hv : bA dq (bp (ab 0) (aS 1)) (aS 1) [some (.ref A.dk), some (.int m)] Z = some (.int (j + 1), Z) := by
   unfold bA
   rw [aG hi]
   rfl
  unfold fw
  rw [aG hv]
  show (match nt (.ref A.dk) (.int 1) (.int (j + 1)) Z with | some Z4 => _ | none => none) = _
  unfold nt
  simp only [hdk]
  rw [<- hσ1]
  rfl
 have hi1 : bp (ab 0) (aS 1) [some (.ref A.dk), some (.int m)] Z1 = some (.int (j + 1), Z1) := eF (i := 1) rfl rfl k1 rfl
 have hi0 : bp (ab 0) (aS 0) [some (.ref A.dk), some (.int m)] Z1 = some (.ref A.dr, Z1) := eF (i := 0) rfl rfl k1 rfl
 have hlen : ap fM (ac (bp (ab 0) (aS 0)) aj) [some (.ref A.dk), some (.int m)] Z1 = some (.int ks.length, Z1) :=
  bo (vs := [.ref A.dr]) (Z0 := Z1) (aI hi0 rfl) (by simp only [fM, k2]; rw [List.length_map])
 have ht : aY (bp (ab 0) (aS 1)) (az oZ (ap fM (ac (bp (ab 0) (aS 0)) aj))) [some (.ref A.dk), some (.int m)] Z1 = some (decide (j + 1 <= (ks.length : Int)), Z1) := by
  unfold aY az
  rw [aG hi1, aG hlen]
  rfl
 have hmod : ∀ x : Int, yF (.int x) (.int m) Z1 = some (.int (x.fmod m), Z1) := λ x => if_pos (show m ≠ 0 by exact Int.ne_of_gt (by assumption))
 by_cases hc : j + 1 <= (ks.length : Int)
 ·obtain ⟨i, hi⟩ : ∃ i : Nat, j = i := ⟨j.toNat, by lia⟩
  have hil : i < ks.length := by lia
  have hx : bA yF (bp (bp (ab 0) (aS 0)) (bA hH (bp (ab 0) (aS 1)) (aS 1))) (ab 1) [some (.ref A.dk), some (.int m)] Z1 = some (.int ((ks[i]'hil).fmod m), Z1) := by
   have h1 : bA hH (bp (ab 0) (aS 1)) (aS 1) [some (.ref A.dk), some (.int m)] Z1 = some (.int (i : Nat), Z1) := by
    unfold bA
    rw [aG hi1]
    show some (PV.int (j + 1 - 1), Z1) = _
    rw [hi, Int.add_sub_cancel]
   have h2 : bp (bp (ab 0) (aS 0)) (bA hH (bp (ab 0) (aS 1)) (aS 1)) [some (.ref A.dk), some (.int m)] Z1 = some (.int (ks[i]'hil), Z1) := eF hi0 h1 k2 (by rw [List.getElem?_map, List.getElem?_eq_getElem hil]; rfl)
   exact jN h2 rfl (hmod _)
  refine qh ((ks[i]'hil).fmod m) Z1 ?_ (Int.fmod_nonneg_of_pos _ hm) (Int.fmod_lt_of_pos _ hm) H1
  unfold bd bg
  show cb (gB [some (.ref A.dk), some (.int m)] Z) _ = _
  unfold gB
  rw [av s1 (bv (v := .int ((ks[i]'hil).fmod m)) (fr1 := [some (.ref A.dk), some (.int m)]) (Z1 := Z1) (by
   unfold cX
   rw [ht, decide_eq_true hc]
   exact bv (by unfold cJ; rw [aG hx])))]
  rfl
 ·have hJ : j + 1 < 4096 := by lia
  have m1 : bA lh (bp (ab 0) (aS 1)) (bp (ab 0) (aS 1)) [some (.ref A.dk), some (.int m)] Z1 = some (.int ((j + 1) * (j + 1)), Z1) := by
   unfold bA
   rw [aG hi1, aG hi1]
   exact if_pos ⟨by lia, by lia⟩
  have hsq : ((j + 1) * (j + 1)).natAbs < 1073741824 := by
   have : (j + 1) * (j + 1) <= 901 * 901 := Int.mul_le_mul (by lia) (by lia) (by lia) (by decide)
   have h0 : 0 <= (j + 1) * (j + 1) := Int.mul_nonneg (by lia) (by lia)
   lia
  have m2 : bA lh (bA lh (bp (ab 0) (aS 1)) (bp (ab 0) (aS 1))) (aS 41) [some (.ref A.dk), some (.int m)] Z1 = some (.int ((j + 1) * (j + 1) * 41), Z1) := by
   unfold bA at m1 |-
   rw [aG m1]
   exact if_pos ⟨by decide, hsq⟩
  have m3 : bA lh (aS 13) (bp (ab 0) (aS 1)) [some (.ref A.dk), some (.int m)] Z1 = some (.int (13 * (j + 1)), Z1) := by
   unfold bA
   show cb (bp _ _ _ Z1) _ = _
   rw [aG hi1]
   exact if_pos ⟨by lia, by decide⟩
  have m4 : bA lh (aS 5) (ap fM (ac (bp (ab 0) (aS 0)) aj)) [some (.ref A.dk), some (.int m)] Z1 = some (.int (5 * ks.length), Z1) := by
   unfold bA
   show cb (ap _ _ _ Z1) _ = _
   rw [aG hlen]
   exact if_pos ⟨by lia, by decide⟩
  have m5 : bA dq (bA dq (bA lh (bA lh (bp (ab 0) (aS 1)) (bp (ab 0) (aS 1))) (aS 41)) (bA lh (aS 13) (bp (ab 0) (aS 1)))) (bA lh (aS 5) (ap fM (ac (bp (ab 0) (aS 0)) aj))) [some (.ref A.dk), some (.int m)] Z1 = some (.int ((j + 1) * (j + 1) * 41 + 13 * (j + 1) + 5 * ks.length), Z1) := by
   unfold bA at m2 m3 m4 |-
   rw [aG (aG m2 |>.trans (aG m3)), aG m4]
   rfl
  have m6 : bA yF (bA DM (bA dq (bA dq (bA lh (bA lh (bp (ab 0) (aS 1)) (bp (ab 0) (aS 1))) (aS 41)) (bA lh (aS 13) (bp (ab 0) (aS 1)))) (bA lh (aS 5) (ap fM (ac (bp (ab 0) (aS 0)) aj)))) (aS 3)) (ab 1) [some (.ref A.dk), some (.int m)] Z1 = some (.int ((((j + 1) * (j + 1) * 41 + 13 * (j + 1) + 5 * ks.length).fdiv 3).fmod m), Z1) := by
   generalize hX : (j + 1) * (j + 1) * 41 + 13 * (j + 1) + 5 * (ks.length : Int) = X at m5
   unfold bA at m5 |-
   rw [aG (aG m5)]
   exact hmod _
  refine qh ((((j + 1) * (j + 1) * 41 + 13 * (j + 1) + 5 * ks.length).fdiv 3).fmod m) Z1 ?_ (Int.fmod_nonneg_of_pos _ hm) (Int.fmod_lt_of_pos _ hm) H1
  ·unfold bd bg
   show cb (gB [some (.ref A.dk), some (.int m)] Z) _ = _
   unfold gB
   rw [av s1 (av (Z1 := Z1) (by unfold cX; rw [ht, decide_eq_false hc]; rfl) (bv (v := .int ((((j + 1) * (j + 1) * 41 + 13 * (j + 1) + 5 * ks.length).fdiv 3).fmod m)) (fr1 := [some (.ref A.dk), some (.int m)]) (Z1 := Z1) (by unfold cJ; rw [aG m6])))]
   rfl
theorem dB (H : Lw Z g t A j w z nV) {m : Int} (hm : 0 < m) (hj : j <= 900) (fr : ag) (i : Nat) (hi : fr[i]? = some (some (.ref A.dk))) {e : ag -> M PV} (he : ∀ Z, e fr Z = some (.int m, Z)) : ∃ (d : Int) (Z' : St), ap bd (ac (ab i) (ac e aj)) fr Z = some (.int d, Z') /\ 0 <= d /\ d < m /\ Lw Z' g t A (j + 1) w z nV := by
 refine jn (uw H hm hj) λ d Z' h1 h2 => ?_
 exact lW d Z' (bo (vs := [.ref A.dk, .int m]) (Z0 := Z) (aI (by unfold ab; rw [hi]) (aI (he Z) rfl)) h1) h2
theorem gz {ks : List Nat} {a : ag -> M PV} {fr : ag} {Z Z1 : St} {vs : List PV} (ha : a fr Z = some (.tup vs, Z1)) (hl : vs.length = ks.length) : dI ks a fr Z = some ((.next, xN fr ks vs), Z1) := by
 unfold dI
 rw [aG ha]
 exact if_pos hl
end
end
section
theorem Ae (k : Int) (v : PV) (j : Int) : ∀ D : List (Int × PV), gL (D.map (λ kv => if kv.1 = k then (kv.1, v) else kv)) j = if j = k then (gL D k).map (λ _ => v) else gL D j
 | [] => by unfold gL; simp
 | e :: D => by
  have ih := Ae k v j D
  unfold gL at ih |-
  rw [List.map_cons, List.find?_cons, List.find?_cons]
  by_cases h1 : e.1 = k
  ·rw [if_pos h1]
   by_cases h2 : j = k
   ·rw [if_pos h2]
    simp [h1, h2]
   ·rw [if_neg h2] at ih |-
    rw [List.find?_cons]
    have : ¬ e.1 = j := λ q => h2 (by rw [<- q, h1])
    simp only [this, decide_false]
    exact ih
  ·rw [if_neg h1]
   by_cases h2 : j = k
   ·subst h2
    rw [if_pos rfl] at ih |-
    simp only [h1, decide_false]
    exact ih
   ·rw [if_neg h2] at ih |-
    rw [List.find?_cons]
    by_cases h3 : e.1 = j
    ·simp [h3]
    ·simp only [h3, decide_false]
     exact ih
theorem CS (D : List (Int × PV)) (k j : Int) (v : PV) : gL (lJ D k v) j = if j = k then some v else gL D j := by
 unfold lJ
 split
 ·rename_i h
  rw [Ae]
  split
  ·refine aQ (List.any_eq_true.mp h) λ e h1 h2 => ?_
   have hs : (gL D k).isSome = true := by
    unfold gL
    rw [Option.isSome_map, List.find?_isSome]
    exact ⟨e, h1, h2⟩
   refine br (Option.isSome_iff_exists.mp hs) λ x hx => ?_
   rw [hx]; rfl
  ·rfl
 ·rename_i h
  have hno : D.find? (λ kv => decide (kv.1 = k)) = none := by
   rw [List.find?_eq_none]
   intro x hx q
   exact h (List.any_eq_true.mpr ⟨x, hx, q⟩)
  unfold gL
  rw [List.find?_append]
  by_cases h2 : j = k
  ·subst h2
   rw [hno, if_pos rfl]; simp
  ·rw [if_neg h2]
   have : ¬ k = j := λ q => h2 q.symm
   cases D.find? (λ kv => decide (kv.1 = j)) <;> simp [this]
theorem A9 (D : List (Int × PV)) (k : Int) (v : PV) (h : (D.map (·.1)).Nodup) : ((lJ D k v).map (·.1)).Nodup := by
 unfold lJ
 split
 ·rw [List.map_map]
  have : ((λ kv : Int × PV => kv.1) ∘ λ kv => if kv.1 = k then (kv.1, v) else kv) = (λ kv => kv.1) := by
   funext kv
   show (if kv.1 = k then (kv.1, v) else kv).1 = _
   split <;> rfl
  rw [this]; exact h
 ·rename_i hn
  rw [List.map_append]
  refine List.nodup_append.mpr ⟨h, by simp, λ a ha c hc => ?_⟩
  have : c = k := by simpa using hc
  rw [this]
  refine aQ (List.mem_map.mp ha) λ kv hkv qq1 => ?_; obtain rfl := qq1
  intro q
  exact hn (List.any_eq_true.mpr ⟨kv, hkv, by simpa using q⟩)
theorem Bo (D : List (Int × PV)) (k : Int) (v : PV) {kv : Int × PV} (h : kv ∈ lJ D k v) : kv.1 = k \/ kv ∈ D := by
 unfold lJ at h
 split at h
 ·refine aQ (List.mem_map.mp h) λ e h1 qq2 => ?_; obtain rfl := qq2
  by_cases q : e.1 = k
  ·rw [if_pos q]; exact .inl q
  ·rw [if_neg q]; exact .inr h1
 ·rcases List.mem_append.mp h with q | q
  ·exact .inr q
  ·rw [List.mem_singleton.mp q]; exact .inl rfl
noncomputable def upd (w : Nat -> Option (Int × Int × Bool)) (k : Nat) (x : Option (Int × Int × Bool)) : Nat -> Option (Int × Int × Bool) := λ i => if i = k then x else w i
section
variable {Z Z' : St} {g g' : G} {t t' : T} {A : zW} {j j' : Int} {w w' : Nat -> Option (Int × Int × Bool)} {z z' : Bool} {nV nV' : Nat} {D : List (Int × PV)} {ol : Nat}
theorem Lw.app (H : Lw Z g t A j w z nV) (hn : nV < g.N) : Lw (Z.set A.ol (.list ((List.range nV).map (λ k => PV.ref (g.ov k)) ++ [.ref (g.ov nV)]))) g t A j w z (nV + 1) := by
 have q1 := H.o1
 have q2 := H.o2
 have q3 := H.o3
 have q4 := H.o4
 refine aQ H.own λ D hD hO => ?_
 refine H.turn (Nat.le_refl _) (λ a _ _ _ h => by rw [aT, if_neg h]) (by rw [aT, if_neg (by lia)]; exact H.dk) H.j0 ⟨D, by rw [aT, if_neg (by lia)]; exact hD, hO.mono (λ _ _ => rfl) (Nat.le_refl _) (Nat.le_refl _) (λ a _ h _ => by rw [aT, if_neg (by lia)])⟩ ?_ hn
 rw [aT, if_pos rfl, List.range_succ, List.map_append]
 rfl
theorem gW.del (H : gW Z g ol w D) (k : Nat) : gW Z g ol (upd w k none) (lG D k) := by
 refine ⟨H.nd.sublist ((List.filter_sublist (p := _)).map _), λ i b e f q => ?_, λ kv hkv => ?_, λ i q => ?_⟩
 ·have q' : (if i = k then none else w i) = some (b, e, f) := q
  have hik : i ≠ k := λ x => by rw [if_pos x] at q'; exact bG q'
  rw [if_neg hik] at q'
  rw [xB _ _ _ (by lia)]
  exact H.get i b e f q'
 ·unfold lG at hkv
  rw [List.mem_filter] at hkv
  refine aQ (H.mem kv hkv.1) λ i h1 h2 => ?_
  refine cC i h1 ?_
  have hik : i ≠ k := λ x => by have h := hkv.2; rw [h1, x] at h; simp at h
  show (if i = k then none else w i).isSome = true
  rw [if_neg hik]; exact h2
 ·have q' : (if i = k then none else w i).isSome = true := q
  have hik : i ≠ k := λ x => by rw [if_pos x] at q'; cases q'
  rw [if_neg hik] at q'
  exact H.lt i q'
theorem gW.set (H : gW Z g ol w D) {k r : Nat} {b e : Int} {f : Bool} (hk : k < g.N) (h1 : ol < r) (h2 : r < Z.next) (h3 : 10 <= (g.tag r).1) (h4 : Z.objs r = .list [.int b, .int e, .bool f]) : gW Z g ol (upd w k (some (b, e, f))) (lJ D k (.ref r)) := by
 refine ⟨A9 _ _ _ H.nd, λ i b' e' f' q => ?_, λ kv hkv => ?_, λ i q => ?_⟩
 ·have q' : (if i = k then some (b, e, f) else w i) = some (b', e', f') := q
  rw [CS]
  by_cases hik : i = k
  ·rw [if_pos hik] at q'
   cases q'
   rw [if_pos (by rw [hik])]
   exact ri r rfl h1 h2 h3 h4
  ·rw [if_neg hik] at q'
   rw [if_neg (by lia)]
   exact H.get i b' e' f' q'
 ·rcases Bo _ _ _ hkv with q | q
  ·exact cC k q (by show (if k = k then _ else w k).isSome = true; rw [if_pos rfl]; rfl)
  ·refine aQ (H.mem kv q) λ i h1 h2 => ?_
   refine cC i h1 ?_
   show (if i = k then _ else w i).isSome = true
   split
   ·rfl
   ·exact h2
 ·have q' : (if i = k then some (b, e, f) else w i).isSome = true := q
  by_cases hik : i = k
  ·rw [hik]; exact hk
  ·rw [if_neg hik] at q'; exact H.lt i q'
theorem Lw.dlen (H : Lw Z g t A j w z nV) (h : gW Z g A.ol w D) : D.length <= 6 := Nat.le_trans h.len H.nN
theorem Lw.row (H : Lw Z g t A j w false nV) {k : Nat} (hk : k < g.N) {m : ag -> M (List PV)} {ie : ag -> M PV} {fr : ag} {Z0 : St} {i : Nat} {b e : Int} {f : Bool} (hm : m fr Z0 = some ([.int b, .int e, .bool f], Z)) (hi : fr[i]? = some (some (.ref A.ow))) (hie : ∀ Z, ie fr Z = some (.int k, Z)) :
  ∃ Z', fw (ab i) ie (cQ m) fr Z0 = some ((.next, fr), Z') /\ Lw Z' g t A j (upd w k (some (b, e, f))) false nV := by
 have q1 := H.o1
 have q2 := H.o2
 have q3 := H.o3
 have q4 := H.o4
 obtain ⟨D, hD, hO⟩ := H.own
 have hl := H.dlen hO
 generalize hσ1 : Z.push (.list [.int b, .int e, .bool f]) = Z1
 have x1 : Z1.next = Z.next + 1 := by rw [<- hσ1]; rfl
 have p1 : ∀ a, a < Z.next -> Z1.objs a = Z.objs a := λ a ha => by rw [<- hσ1]; exact if_neg (by exact Nat.ne_of_lt (by assumption))
 have r1 : Z1.objs Z.next = .list [.int b, .int e, .bool f] := by rw [<- hσ1]; exact if_pos rfl
 have hO1 : gW Z1 g A.ol w D := hO.mono (λ _ _ => rfl) (Nat.le_refl _) (by lia) (λ a h _ _ => p1 a h)
 have hO2 := hO1.set (r := Z.next) (b := b) (e := e) (f := f) hk q4 (by lia) (H.fr _ (Nat.le_refl _)) r1
 have hD1 : Z1.objs A.ow = .dict D := (p1 _ (by exact Nat.lt_trans (by assumption) (by assumption))).trans hD
 refine ⟨Z1.set A.ow (.dict (lJ D k (.ref Z.next))), ?_, H.turn (by show Z.next <= Z1.next; lia) (λ a h1 _ h2 _ => by rw [aT, if_neg h2]; exact p1 a h1) (by rw [aT, if_neg (by exact Nat.ne_of_lt (by assumption)), p1 _ (by lia)]; exact H.dk) H.j0 ⟨_, if_pos rfl, hO2.mono (λ _ _ => rfl) (Nat.le_refl _) (Nat.le_refl _) (λ a _ h _ => by rw [aT, if_neg (by lia)])⟩ (by rw [aT, if_neg (by exact Nat.ne_of_gt (by assumption)), p1 _ (by assumption)]; exact H.ol) H.nV⟩
 unfold fw
 rw [aG (ji hm (by show 3 <= 1000; decide)), hσ1]
 have hv : ab i fr Z1 = some (.ref A.ow, Z1) := by unfold ab; rw [hi]
 rw [aG hv, aG (hie Z1)]
 simp only [nt, hD1]
 rw [if_pos (by lia)]
theorem Lw.del (H : Lw Z g t A j w false nV) {k : Nat} (hk : (w k).isSome = true) {ie : ag -> M PV} {fr : ag} {i : Nat} (hi : fr[i]? = some (some (.ref A.ow))) (hie : ie fr Z = some (.int k, Z)) :
  ∃ Z', wD (ab i) ie fr Z = some ((.next, fr), Z') /\ Lw Z' g t A j (upd w k none) false nV := by
 have q1 := H.o1
 have q2 := H.o2
 have q3 := H.o3
 have q4 := H.o4
 refine aQ H.own λ D hD hO => ?_
 have hD' : Z.objs A.ow = .dict D := hD
 refine br (Option.isSome_iff_exists.mp hk) λ qq3 hw => ?_; obtain ⟨b, e, f⟩ := qq3
 refine aQ (hO.get k b e f hw) λ r hr _ => ?_
 refine cC (Z.set A.ow (.dict (lG D k))) ?_ (H.turn (Nat.le_refl _) (λ a h1 _ h2 _ => by rw [aT, if_neg h2]) (by rw [aT, if_neg (by lia)]; exact H.dk) H.j0 ⟨_, if_pos rfl, (hO.del k).mono (λ _ _ => rfl) (Nat.le_refl _) (Nat.le_refl _) (λ a _ h _ => by rw [aT, if_neg (by lia)])⟩ (by rw [aT, if_neg (by lia)]; exact H.ol) H.nV)
 unfold wD
 have hv : ab i fr Z = some (.ref A.ow, Z) := by unfold ab; rw [hi]
 rw [aG hv, aG hie]
 simp only [nc, hD', hr]
noncomputable def bX (g : G) : Nat -> Option (Int × Int × Bool) := λ k => if k < g.N /\ g.lv k = true then some (g.B k, g.E k, g.fl k) else none
theorem AH (H : Lw Z g t A j w z nV) {b e : Int} (P : PS Z' ((g.born Z.next).lay g.N b e) t') (U : nh g Z Z') (hN : g.N + 1 <= 6) : Lw Z' ((g.born Z.next).lay g.N b e) t' A j w z nV := by
 have hp : ((g.born Z.next).lay g.N b e).pl g.N < Z'.next := P.lpl g.N (by show g.N < g.N + 1; exact Nat.le_refl _)
 have hp' : ((g.born Z.next).lay g.N b e).pl g.N = Z.next + 2 := if_pos rfl
 rw [hp'] at hp
 refine H.prog P U (λ a ha => ?_) (λ a ha => ?_) (by show g.N <= g.N + 1; exact Nat.le_succ _) hN (λ k hk => if_neg (by exact Nat.ne_of_lt (by assumption)))
 ·show (if a = Z.next then _ else if a = Z.next + 1 then _ else if a = Z.next + 2 then _ else g.tag a) = _
  rw [if_neg (by exact Nat.ne_of_lt (by assumption)), if_neg (by lia), if_neg (by lia)]
 ·show 10 <= (if a = Z.next then _ else if a = Z.next + 1 then _ else if a = Z.next + 2 then _ else g.tag a).1
  rw [if_neg (by lia), if_neg (by lia), if_neg (by exact Nat.ne_of_gt (Nat.lt_of_lt_of_le (by assumption) (by assumption)))]
  exact H.fr a (by lia)
theorem AO (H : Lw Z g t A j w z nV) {k n : Nat} {c : Bool} (hk : k < g.N) (P : PS Z' ((g.mark k n).gone k c) t') (U : nh g Z Z') (hn : Z.next <= n) : Lw Z' ((g.mark k n).gone k c) t' A j w z nV := by
 have hp : ((g.mark k n).gone k c).pl k < Z'.next := P.lpl k hk
 have hp' : ((g.mark k n).gone k c).pl k = n := if_pos rfl
 rw [hp'] at hp
 refine H.prog P U (λ a ha => if_neg (by exact Nat.ne_of_lt (Nat.lt_of_lt_of_le (by assumption) (by assumption)))) (λ a ha => ?_) (Nat.le_refl _) H.nN (λ k hk => rfl)
 show 10 <= (if a = n then _ else g.tag a).1
 rw [if_neg (by exact Nat.ne_of_gt (Nat.lt_of_lt_of_le (by assumption) (by assumption)))]
 exact H.fr a (by have := U.next; exact Nat.le_trans (by assumption) (by assumption))
end
end
section
section
variable {Z Z' : St} {g g' : G} {t t' : T} {A : zW} {j j' : Int} {w w' : Nat -> Option (Int × Int × Bool)} {z z' : Bool} {nV nV' : Nat} {D : List (Int × PV)} {ol : Nat}
theorem zj (H : Lw Z g t A j (bX g) false g.N) (hN : g.N + 1 <= 6) (hj : j <= 800) :
  ∃ (p : PV) (Z' : St) (g' : G) (t' : T), eV [.ref A.dk, .ref g.hm, .ref A.ow, .ref A.ol] Z = some (p, Z') /\ Lw Z' g' t' A (j + 4) (bX g') false g'.N /\ g'.N = g.N + 1 /\ g'.hm = g.hm := by
 have hj4 : j + 1 + 1 + 1 + 1 = j + 4 := by lia
 refine ed (dB H (m := 14) (by decide) (by lia) [some (.ref A.dk), some (.ref g.hm), some (.ref A.ow), some (.ref A.ol), none, none, none, none] 0 rfl (e := aS 14) (λ _ => rfl)) λ d1 Z1 c1 a1 b1 H1 => ?_
 refine ed (dB H1 (m := 4) (by decide) (by lia) [some (.ref A.dk), some (.ref g.hm), some (.ref A.ow), some (.ref A.ol), none, none, none, none] 0 rfl (e := aS 4) (λ _ => rfl)) λ d2 Z2 c2 a2 b2 H2 => ?_
 refine ed (dB H2 (m := 3) (by decide) (by lia) [some (.ref A.dk), some (.ref g.hm), some (.ref A.ow), some (.ref A.ol), none, none, none, none] 0 rfl (e := aS 3) (λ _ => rfl)) λ d3 Z3 c3 a3 b3 H3 => ?_
 have hlen : ap fM (ac (ab 3) aj) [some (.ref A.dk), some (.ref g.hm), some (.ref A.ow), some (.ref A.ol), none, none, none, none] Z = some (.int g.N, Z) :=
  bo (vs := [.ref A.ol]) (Z0 := Z) rfl (by simp only [fM, H.ol]; rw [List.length_map, List.length_range])
 have s1 := gz (ks := [4, 5, 6, 7]) (ip (aI hlen (aI c1 (aI c2 (aI c3 bZ)))) (by show 4 <= 1000; decide)) rfl
 refine ed (dB H3 (m := 2) (by decide) (by lia) [some (.ref A.dk), some (.ref g.hm), some (.ref A.ow), some (.ref A.ol), some (.int g.N), some (.int d1), some (.int d2), some (.int d3)] 0 rfl (e := aS 2) (λ _ => rfl)) λ d4 Z4 c4 a4 b4 H4 => ?_
 generalize he : (if d1 + d2 < 16 then d1 + d2 else 16) = e; revert e; refine qQ ?_; intro e he
 have hbe : d1 <= e := by rw [<- he]; split <;> lia
 have he0 : d1 = e ↔ d2 = 0 := by rw [<- he]; split <;> lia
 have hmin : ∀ Z, ap rY (ac (aS 16) (ac (bA dq (ab 5) (ab 6)) aj)) [some (.ref A.dk), some (.ref g.hm), some (.ref A.ow), some (.ref A.ol), some (.int g.N), some (.int d1), some (.int d2), some (.int d3)] Z = some (.int e, Z) := λ Z => by
  rw [<- he]; rfl
 refine gX (A6 H4.ps hN (b := d1) (e := e) (fa := .bool (decide (d4 = 1))) (ra := .bool (decide (d3 = 2))) hbe) λ Z5 t5 m1 m2 m3 => ?_
 have H5 := AH H4 m2 m3 hN
 generalize hg5 : (g.born Z4.next).lay g.N d1 e = g5 at m2 H5; revert g5; refine qQ ?_; intro g5 hg5 m2 H5
 have N5 : g5.N = g.N + 1 := by rw [<- hg5]; rfl
 have hm5 : g5.hm = g.hm := by rw [<- hg5]; rfl
 have ov5 : g5.ov g.N = Z4.next := by rw [<- hg5]; exact if_pos rfl
 have lv5 : g5.lv g.N = true := by rw [<- hg5]; exact if_pos rfl
 have fl5 : g5.fl g.N = false := by rw [<- hg5]; exact if_pos rfl
 have B5 : g5.B g.N = d1 := by rw [<- hg5]; exact if_pos rfl
 have E5 : g5.E g.N = e := by rw [<- hg5]; exact if_pos rfl
 have oth5 : ∀ k, k < g.N -> g5.lv k = g.lv k /\ g5.fl k = g.fl k /\ g5.B k = g.B k /\ g5.E k = g.E k := λ k hk => by
  have hne : k ≠ g.N := by lia
  have e1 : (g.born Z4.next).lv k = g.lv k := if_neg hne
  have e2 : (g.born Z4.next).fl k = g.fl k := if_neg hne
  rw [<- hg5]
  refine ⟨?_, e2, if_neg hne, if_neg hne⟩
  exact (if_neg hne).trans e1
 have H6 := H5.app (by lia)
 rw [ov5] at H6
 have s2 : bi (ds mi dv (ab 3) (ap eI (ac (ab 1) (ac (ab 4) (ac (ab 5) (ac (ap rY (ac (aS 16) (ac (bA dq (ab 5) (ab 6)) aj))) (ac (eD (ap bd (ac (ab 0) (ac (aS 2) aj))) (az fq (aS 1))) (ac (eD (ab 7) (az fq (aS 2))) aj)))))))) [some (.ref A.dk), some (.ref g.hm), some (.ref A.ow), some (.ref A.ol), some (.int g.N), some (.int d1), some (.int d2), some (.int d3)] Z3
   = some ((.next, [some (.ref A.dk), some (.ref g.hm), some (.ref A.ow), some (.ref A.ol), some (.int g.N), some (.int d1), some (.int d2), some (.int d3)]), Z5.set A.ol (.list ((List.range g.N).map (λ k => PV.ref (g5.ov k)) ++ [.ref Z4.next]))) := by
  have hcall : ap eI (ac (ab 1) (ac (ab 4) (ac (ab 5) (ac (ap rY (ac (aS 16) (ac (bA dq (ab 5) (ab 6)) aj))) (ac (eD (ap bd (ac (ab 0) (ac (aS 2) aj))) (az fq (aS 1))) (ac (eD (ab 7) (az fq (aS 2))) aj)))))) [some (.ref A.dk), some (.ref g.hm), some (.ref A.ow), some (.ref A.ol), some (.int g.N), some (.int d1), some (.int d2), some (.int d3)] Z3 = some (.ref Z4.next, Z5) :=
   bo (vs := [.ref g.hm, .int g.N, .int d1, .int e, .bool (decide (d4 = 1)), .bool (decide (d3 = 2))]) (Z0 := Z4) (aI rfl (aI rfl (aI rfl (aI (hmin _) (aI (eE c4 rfl) (aI rfl rfl)))))) m1
  unfold bi
  rw [aG (a := .none) (Z := Z5.set A.ol (.list ((List.range g.N).map (λ k => PV.ref (g5.ov k)) ++ [.ref Z4.next])))]
  unfold ds
  show cb (some (PV.ref A.ol, Z3)) _ = _
  show (if mi (.ref A.ol) Z3 then _ else _) = _
  rw [if_pos (by unfold mi; simp only [H3.ol]), aG hcall]
  unfold dv
  simp only [H5.ol]
  rw [if_pos (by rw [List.length_map, List.length_range]; lia)]
 generalize hσ6 : Z5.set A.ol (.list ((List.range g.N).map (λ k => PV.ref (g5.ov k)) ++ [.ref Z4.next])) = Z6 at H6 s2; revert Z6; refine qQ ?_; intro Z6 hσ6 H6 s2
 refine aQ (H6.row (k := g.N) (by lia) (m := ac (ab 5) (ac (ap rY (ac (aS 16) (ac (bA dq (ab 5) (ab 6)) aj))) (ac (eD (ab 7) (az fq (aS 1))) aj))) (ie := ab 4) (fr := [some (.ref A.dk), some (.ref g.hm), some (.ref A.ow), some (.ref A.ol), some (.int g.N), some (.int d1), some (.int d2), some (.int d3)]) (Z0 := Z6) (i := 2) (b := d1) (e := e) (f := decide (d3 = 1)) (aI rfl (aI (hmin _) (aI (eE rfl rfl) rfl))) rfl (λ _ => rfl)) λ Z8 s3 H8 => ?_
 have hrun : ∀ {s4' Z9}, (cX (aY (ab 7) (az fq (aS 1))) (ai (bi (ap ew (ac (ak dy (ab 1)) (ac (bp (ab 3) (ab 4)) (ac (aS 103) (ac (de true) aj))))))
  (ai (cX (aY (ab 6) (az fq (aS 0))) (ai (wD (ab 2) (ab 4)) aA) aA) aA)) aA) [some (.ref A.dk), some (.ref g.hm), some (.ref A.ow), some (.ref A.ol), some (.int g.N), some (.int d1), some (.int d2), some (.int d3)] Z8 = some ((.next, s4'), Z9) -> eV [.ref A.dk, .ref g.hm, .ref A.ow, .ref A.ol] Z = some (.none, Z9) := by
  intro s4' Z9 h
  unfold eV bg
  show cb (ja [some (.ref A.dk), some (.ref g.hm), some (.ref A.ow), some (.ref A.ol), none, none, none, none] Z) _ = _
  unfold ja
  rw [aD s1 (av s2 (av s3 (aD h rfl)))]
  rfl
 by_cases hk : d3 = 1
 ·-- marked
  refine fj H8.ps.rules λ lp df hru => ?_
  have hh8 := H8.ps.home
  rw [hm5] at hh8
  refine xf (AK H8.ps (k := g.N) (by lia) lv5 fl5) λ p9 Z9 t9 n9 e1 e2 e3 e4 => ?_
  have H9 := AO H8 (by lia) e2 e3 e4
  generalize hg9 : (g5.mark g.N n9).gone g.N (decide (g5.B g.N = g5.E g.N)) = g9 at e2 H9; revert g9; refine qQ ?_; intro g9 hg9 e2 H9
  have N9 : g9.N = g.N + 1 := by rw [<- hg9]; exact N5
  have hm9 : g9.hm = g.hm := by rw [<- hg9]; exact hm5
  have lv9 : g9.lv g.N = !(decide (d1 = e)) := by
   rw [<- hg9]
   show (if g.N = g.N then g5.lv g.N && !(decide (g5.B g.N = g5.E g.N)) else g5.lv g.N) = _
   rw [if_pos rfl, lv5, B5, E5]; rfl
  have fl9 : g9.fl g.N = true := by rw [<- hg9]; exact if_pos rfl
  have B9 : g9.B g.N = d1 := by rw [<- hg9]; exact B5
  have E9 : g9.E g.N = e := by rw [<- hg9]; exact E5
  have oth9 : ∀ k, k < g.N -> g9.lv k = g.lv k /\ g9.fl k = g.fl k /\ g9.B k = g.B k /\ g9.E k = g.E k := λ k hk' => by
   have hne : k ≠ g.N := by lia
   refine iH (oth5 k hk') λ z1 z2 z3 z4 => ?_
   rw [<- hg9]
   refine ⟨?_, ?_, z3, z4⟩
   ·exact (if_neg hne).trans z1
   ·exact (if_neg hne).trans z2
  have t1 : aY (ab 7) (az fq (aS 1)) [some (.ref A.dk), some (.ref g.hm), some (.ref A.ow), some (.ref A.ol), some (.int g.N), some (.int d1), some (.int d2), some (.int d3)] Z8 = some (true, Z8) := by
   show some (decide (d3 = 1), Z8) = _
   rw [decide_eq_true hk]
  have hput : bi (ap ew (ac (ak dy (ab 1)) (ac (bp (ab 3) (ab 4)) (ac (aS 103) (ac (de true) aj))))) [some (.ref A.dk), some (.ref g.hm), some (.ref A.ow), some (.ref A.ol), some (.int g.N), some (.int d1), some (.int d2), some (.int d3)] Z8 = some ((.next, [some (.ref A.dk), some (.ref g.hm), some (.ref A.ow), some (.ref A.ol), some (.int g.N), some (.int d1), some (.int d2), some (.int d3)]), Z9) :=
   cv (vs := [.ref g5.ru, .ref (g5.ov g.N), .int 103, .bool true]) (Z0 := Z8) (aI (aB (i := g.hm) rfl hh8 rfl rfl) (aI (eF (i := g.N) rfl rfl H8.ol (by rw [List.getElem?_map, List.getElem?_range (by lia)]; rfl)) rfl)) e1
  have t2 : aY (ab 6) (az fq (aS 0)) [some (.ref A.dk), some (.ref g.hm), some (.ref A.ow), some (.ref A.ol), some (.int g.N), some (.int d1), some (.int d2), some (.int d3)] Z9 = some (decide (d2 = 0), Z9) := rfl
  by_cases hs : d2 = 0
  ·have hw : (upd (bX g) g.N (some (d1, e, decide (d3 = 1))) g.N).isSome = true := by
    show (if g.N = g.N then _ else _ : Option _).isSome = true
    rw [if_pos rfl]; rfl
   refine aQ (H9.del (k := g.N) hw (ie := ab 4) (fr := [some (.ref A.dk), some (.ref g.hm), some (.ref A.ow), some (.ref A.ol), some (.int g.N), some (.int d1), some (.int d2), some (.int d3)]) (i := 2) rfl rfl) λ Z10 s5 H10 => ?_
   refine nZ .none Z10 g9 t9 (hrun (dJ t1 (av hput (av (dJ t2 (by rw [decide_eq_true hs]; exact av s5 rfl)) rfl)))) ?_ N9 hm9
   have hwe : upd (upd (bX g) g.N (some (d1, e, decide (d3 = 1)))) g.N none = bX g9 := by
    funext k
    show (if k = g.N then none else if k = g.N then _ else bX g k) = bX g9 k
    unfold bX
    by_cases q : k = g.N
    ·rw [if_pos q, q, lv9, decide_eq_true (he0.mpr hs)]; simp
    ·rw [if_neg q, if_neg q, N9]
     by_cases q2 : k < g.N
     ·refine iH (oth9 k q2) λ z1 z2 z3 z4 => ?_
      rw [z1, z2, z3, z4]
      simp only [q2, show k < g.N + 1 by lia]
     ·simp only [q2, show ¬ k < g.N + 1 by lia, false_and, if_false]
   rw [<- hwe, N9]
   rw [<- hj4]; exact H10
  ·refine nZ .none Z9 g9 t9 (hrun (dJ t1 (av hput (av (dJ t2 (by rw [decide_eq_false hs]; rfl)) rfl)))) ?_ N9 hm9
   have hwe : upd (bX g) g.N (some (d1, e, decide (d3 = 1))) = bX g9 := by
    funext k
    show (if k = g.N then _ else bX g k) = bX g9 k
    unfold bX
    by_cases q : k = g.N
    ·rw [if_pos q, q, lv9, decide_eq_false (λ x => hs (he0.mp x)), N9, B9, E9, fl9, decide_eq_true hk]; simp
    ·rw [if_neg q, N9]
     by_cases q2 : k < g.N
     ·refine iH (oth9 k q2) λ z1 z2 z3 z4 => ?_
      rw [z1, z2, z3, z4]
      simp only [q2, show k < g.N + 1 by lia]
     ·simp only [q2, show ¬ k < g.N + 1 by lia, false_and, if_false]
   rw [<- hwe, N9]
   rw [<- hj4]; exact H9
 ·have t1 : aY (ab 7) (az fq (aS 1)) [some (.ref A.dk), some (.ref g.hm), some (.ref A.ow), some (.ref A.ol), some (.int g.N), some (.int d1), some (.int d2), some (.int d3)] Z8 = some (false, Z8) := by
   show some (decide (d3 = 1), Z8) = _
   rw [decide_eq_false hk]
  refine nZ .none Z8 g5 t5 (hrun (dJ t1 rfl)) ?_ N5 hm5
  have hwe : upd (bX g) g.N (some (d1, e, decide (d3 = 1))) = bX g5 := by
   funext k
   show (if k = g.N then _ else bX g k) = bX g5 k
   unfold bX
   by_cases q : k = g.N
   ·rw [if_pos q, q, lv5, N5, B5, E5, fl5, decide_eq_false hk]; simp
   ·rw [if_neg q, N5]
    by_cases q2 : k < g.N
    ·refine iH (oth5 k q2) λ z1 z2 z3 z4 => ?_
     rw [z1, z2, z3, z4]
     simp only [q2, show k < g.N + 1 by lia]
    ·simp only [q2, show ¬ k < g.N + 1 by lia, false_and, if_false]
  rw [<- hwe, N5]
  rw [<- hj4]; exact H8
end
end
section
def l7 (a m : Int) (x : Int × Int × Bool) : Option (Int × Int × Bool) := if et a m x.1 = et a m x.2.1 /\ et a m x.2.1 = a /\ x.2.2 = true then none else some (et a m x.1, et a m x.2.1, x.2.2)
noncomputable def wY (a m : Int) : List Nat -> (Nat -> Option (Int × Int × Bool)) -> Nat -> Option (Int × Int × Bool)
 | [], w => w
 | k :: L, w => wY a m L (upd w k ((w k).bind (l7 a m)))
theorem yn (a m : Int) : ∀ (L : List Nat) (w : Nat -> Option (Int × Int × Bool)), L.Nodup -> ∀ i, wY a m L w i = if i ∈ L then (w i).bind (l7 a m) else w i
 | [], w, _, i => by rw [if_neg (List.not_mem_nil)]; rfl
 | k :: L, w, hn, i => by
  rw [List.nodup_cons] at hn
  show wY a m L (upd w k ((w k).bind (l7 a m))) i = _
  rw [yn a m L _ hn.2]
  by_cases h : i = k
  ·subst h
   rw [if_neg hn.1, if_pos (List.mem_cons_self ..)]
   exact if_pos rfl
  ·have e : upd w k ((w k).bind (l7 a m)) i = w i := if_neg h
   rw [e]
   simp only [List.mem_cons, h, false_or]
def rn : ag -> M (FR × ag) := (ai (dI [6, 7, 8] (bp (ab 2) (ab 5)))
  (ai (dI [6, 7] (dV [false, false, false, true, true, false, false, false, false] (fS (ac (ab 6) (ac (ab 7) aj))) cR (qi (aY (ab 0) (az oZ (ab 4))) (ab 0) (ap lC (ac (ab 4) (ac (bA hH (ab 0) (ab 5)) aj))))))
  (ai (fw (ab 2) (ab 5) (cQ (ac (ab 6) (ac (ab 7) (ac (ab 8) aj)))))
  (ai (cX (c9 (aY (ab 6) (cH fq (ab 7) (az fq (ab 3)))) (c9 (bz (ab 8)) cR)) (ai (wD (ab 2) (ab 5))
  aA) aA)
  aA))))
theorem qm {ks : List Nat} {a : ag -> M PV} {fr : ag} {Z Z1 : St} {r : Nat} {vs : List PV} (ha : a fr Z = some (.ref r, Z1)) (hr : Z1.objs r = .list vs) (hl : vs.length = ks.length) : dI ks a fr Z = some ((.next, xN fr ks vs), Z1) := by
 unfold dI
 rw [aG ha]
 simp only [oS, cW, hr]
 exact if_pos hl
section
variable {Z Z' : St} {g g' : G} {t t' : T} {A : zW} {j j' : Int} {w w' : Nat -> Option (Int × Int × Bool)} {z z' : Bool} {nV nV' : Nat} {D : List (Int × PV)} {ol : Nat}
theorem Lw.read (H : Lw Z g t A j w z nV) {k : Nat} {b e : Int} {f : Bool} (hw : w k = some (b, e, f)) {a ie : ag -> M PV} {fr : ag} {Z0 Z1 : St} (ha : a fr Z0 = some (.ref A.ow, Z1)) (hie : ie fr Z1 = some (.int k, Z)) :
  ∃ r, bp a ie fr Z0 = some (.ref r, Z) /\ A.ol < r /\ r < Z.next /\ 10 <= (g.tag r).1 /\ Z.objs r = .list [.int b, .int e, .bool f] := by
 refine aQ H.own λ D hD hO => ?_
 refine gJ (hO.get k b e f hw) λ r h1 h2 h3 h4 h5 => ?_
 refine ri r ?_ h2 h3 h4 h5
 unfold bp
 rw [aG ha, aG hie]
 cases z
 ·have hD' : Z.objs A.ow = .dict D := hD
  simp only [kT, hD', h1]
 ·have hD' : Z.objs A.ow = .fdict D := hD
  simp only [kT, hD', h1]
theorem DR (H : Lw Z g t A j w false nV) {k : Nat} (hk : k < g.N) (hw : (w k).isSome = true) {hm : Nat} {a m : Int} (y6 y7 y8 : Option PV) :
  ∃ Z' y6' y7' y8', rn [some (.ref A.dk), some (.ref hm), some (.ref A.ow), some (.int a), some (.int m), some (.int k), y6, y7, y8] Z = some ((.next, [some (.ref A.dk), some (.ref hm), some (.ref A.ow), some (.int a), some (.int m), some (.int k), y6', y7', y8']), Z') /\ Lw Z' g t A j (upd w k ((w k).bind (l7 a m))) false nV := by
 refine br (Option.isSome_iff_exists.mp hw) λ qq1 hw => ?_; obtain ⟨b, e, f⟩ := qq1
 refine gJ (H.read hw (a := ab 2) (ie := ab 5) (fr := [some (.ref A.dk), some (.ref hm), some (.ref A.ow), some (.int a), some (.int m), some (.int k), y6, y7, y8]) (Z0 := Z) (Z1 := Z) rfl rfl) λ r r1 r2 r3 r4 r5 => ?_
 have s1 := qm (ks := [6, 7, 8]) r1 r5 rfl
 have hcomp := fP (α := Int) (r := .int) (keep := [false, false, false, true, true, false, false, false, false]) (a := fS (ac (ab 6) (ac (ab 7) aj))) (t := cR) (e := qi (aY (ab 0) (az oZ (ab 4))) (ab 0) (ap lC (ac (ab 4) (ac (bA hH (ab 0) (ab 5)) aj)))) (fr := [some (.ref A.dk), some (.ref hm), some (.ref A.ow), some (.int a), some (.int m), some (.int k), some (.int b), some (.int e), some (.bool f)]) (Z := Z) (Z0 := Z) (Z1 := Z) (x := .tup [.int b, .int e]) (I := [b, e]) (b := λ _ => true) (f := λ x => .int (et a m x)) rfl rfl (by show 2 <= 1000; decide) (λ _ _ => rfl) (λ x _ _ => by
  unfold qi
  show cb (some (decide (x <= a), Z)) _ = _
  show (if decide (x <= a) = true then _ else _) = _
  by_cases q : x <= a
  ·rw [if_pos (decide_eq_true q), rv q]; rfl
  ·rw [if_neg (by simpa using q)]
   unfold et mx
   rw [if_pos (by exact Int.lt_of_not_ge (by assumption))]
   rfl)
 generalize hσ1 : Z.push (.list [.int (et a m b), .int (et a m e)]) = Z1
 have hcomp' : dV [false, false, false, true, true, false, false, false, false] (fS (ac (ab 6) (ac (ab 7) aj))) cR (qi (aY (ab 0) (az oZ (ab 4))) (ab 0) (ap lC (ac (ab 4) (ac (bA hH (ab 0) (ab 5)) aj)))) [some (.ref A.dk), some (.ref hm), some (.ref A.ow), some (.int a), some (.int m), some (.int k), some (.int b), some (.int e), some (.bool f)] Z = some (.ref Z.next, Z1) := by
  rw [<- hσ1]; exact hcomp
 have H1 : Lw Z1 g t A j w false nV := H.quiet (by rw [<- hσ1]; exact Nat.le_succ _) (λ x hx => by rw [<- hσ1]; exact if_neg (by exact Nat.ne_of_lt (by assumption)))
 have s2 := qm (ks := [6, 7]) hcomp' (by rw [<- hσ1]; exact if_pos rfl) rfl
 refine aQ (H1.row (k := k) hk (m := ac (ab 6) (ac (ab 7) (ac (ab 8) aj))) (ie := ab 5) (fr := [some (.ref A.dk), some (.ref hm), some (.ref A.ow), some (.int a), some (.int m), some (.int k), some (.int (et a m b)), some (.int (et a m e)), some (.bool f)]) (Z0 := Z1) (i := 2) (b := et a m b) (e := et a m e) (f := f) rfl rfl (λ _ => rfl)) λ Z2 s3 H2 => ?_
 have ht : (c9 (aY (ab 6) (cH fq (ab 7) (az fq (ab 3)))) (c9 (bz (ab 8)) cR)) [some (.ref A.dk), some (.ref hm), some (.ref A.ow), some (.int a), some (.int m), some (.int k), some (.int (et a m b)), some (.int (et a m e)), some (.bool f)] Z2 = some (decide (et a m b = et a m e /\ et a m e = a /\ f = true), Z2) := by
  unfold c9 aY cH az
  show cb (match some (decide (et a m b = et a m e)) with | some true => some (decide (et a m e = a), Z2) | some false => some (false, Z2) | none => none) _ = _
  by_cases q1 : et a m b = et a m e
  ·by_cases q2 : et a m e = a
   ·rw [decide_eq_true q1, decide_eq_true q2]
    cases f
    ·rw [decide_eq_false (λ q => by cases q.2.2)]; rfl
    ·rw [decide_eq_true ⟨q1, q2, rfl⟩]; rfl
   ·rw [decide_eq_true q1, decide_eq_false q2, decide_eq_false (λ q => q2 q.2.1)]; rfl
  ·rw [decide_eq_false q1, decide_eq_false (p := et a m b = et a m e /\ et a m e = a /\ f = true) (λ q => q1 q.1)]; rfl
 have hwk : (w k).bind (l7 a m) = l7 a m (b, e, f) := by rw [hw]; rfl
 rw [hwk]
 by_cases hc : et a m b = et a m e /\ et a m e = a /\ f = true
 ·have hg : l7 a m (b, e, f) = none := if_pos hc
  rw [hg]
  refine aQ (H2.del (k := k) (by show (if k = k then _ else _ : Option _).isSome = true; rw [if_pos rfl]; rfl) (ie := ab 5) (fr := [some (.ref A.dk), some (.ref hm), some (.ref A.ow), some (.int a), some (.int m), some (.int k), some (.int (et a m b)), some (.int (et a m e)), some (.bool f)]) (i := 2) rfl rfl) λ Z3 s4 H3 => ?_
  refine EO Z3 (some (.int (et a m b))) (some (.int (et a m e))) (some (.bool f)) ?_ ?_
  ·unfold rn
   exact aD s1 (aD s2 (av s3 (av (dJ ht (by rw [decide_eq_true hc]; exact av s4 rfl)) rfl)))
  ·have : upd (upd w k (some (et a m b, et a m e, f))) k none = upd w k none := by
    funext i
    show (if i = k then none else if i = k then _ else w i) = (if i = k then none else w i)
    split <;> rfl
   rw [<- this]; exact H3
 ·have hg : l7 a m (b, e, f) = some (et a m b, et a m e, f) := if_neg hc
  rw [hg]
  refine EO Z2 (some (.int (et a m b))) (some (.int (et a m e))) (some (.bool f)) ?_ H2
  ·unfold rn
   exact aD s1 (aD s2 (av s3 (av (dJ ht (by rw [decide_eq_false hc]; rfl)) rfl)))
theorem zH {hm : Nat} {a m : Int} : ∀ (L : List Nat) {Z : St} {w : Nat -> Option (Int × Int × Bool)} (y5 y6 y7 y8 : Option PV), Lw Z g t A j w false nV -> L.Nodup -> (∀ k ∈ L, k < g.N /\ (w k).isSome = true) ->
  ∃ Z' y5' y6' y7' y8', gC 5 rn (L.map (λ k : Nat => PV.int k)) [some (.ref A.dk), some (.ref hm), some (.ref A.ow), some (.int a), some (.int m), y5, y6, y7, y8] Z = some ((.next, [some (.ref A.dk), some (.ref hm), some (.ref A.ow), some (.int a), some (.int m), y5', y6', y7', y8']), Z') /\ Lw Z' g t A j (wY a m L w) false nV
 | [], Z, w, y5, y6, y7, y8, H, _, _ => ⟨Z, y5, y6, y7, y8, rfl, H⟩
 | k :: L, Z, w, y5, y6, y7, y8, H, hn, hL => by
  rw [List.nodup_cons] at hn
  refine bK (hL k (List.mem_cons_self ..)) λ h1 h2 => ?_
  refine Ew (DR H h1 h2 (hm := hm) (a := a) (m := m) y6 y7 y8) λ Z1 x6 x7 x8 e1 e2 => ?_
  obtain ⟨Z2, z5, z6, z7, z8, f1, f2⟩ := zH L (some (.int k)) x6 x7 x8 e2 hn.2 (λ i hi => by
   refine bK (hL i (List.mem_cons_of_mem _ hi)) λ q1 q2 => ?_
   refine ⟨q1, ?_⟩
   have : i ≠ k := λ q => hn.1 (by rw [<- q]; exact hi)
   show (if i = k then _ else w i).isSome = true
   rw [if_neg this]; exact q2)
  refine Gw Z2 z5 z6 z7 z8 ?_ f2
  show cb (rn [some (.ref A.dk), some (.ref hm), some (.ref A.ow), some (.int a), some (.int m), some (.int k), y6, y7, y8] Z) _ = _
  rw [aG e1]
  exact f1
theorem ny (H : Lw Z g t A j w z nV) {a : ag -> M PV} {fr : ag} {Z0 : St} (ha : a fr Z0 = some (.ref A.ow, Z)) : ap cZ (ac a aj) fr Z0 = some (.ref Z.next, Z.push (.list ((du g.N (λ k => (w k).isSome)).map .int))) := by
 refine aQ H.own λ D hD hO => ?_
 have hl := H.dlen hO
 refine bo (vs := [.ref A.ow]) (Z0 := Z) (aI ha bZ) ?_
 have hk : kZ (.ref A.ow) Z = some (D.map (·.1)) := by
  cases z
  ·have hD' : Z.objs A.ow = .dict D := hD
   simp only [kZ, cW, hD']
  ·have hD' : Z.objs A.ow = .fdict D := hD
   simp only [kZ, cW, hD']
 unfold cZ
 dsimp only
 rw [hk]
 dsimp only
 rw [if_pos (by rw [List.length_map]; lia), hO.sort]
 exact if_pos (by rw [List.length_map]; have := rG g.N (λ k => (w k).isSome); have := H.nN; lia)
theorem ia {k : Nat} : (bX g k).isSome = true ↔ k < g.N /\ g.lv k = true := by
 unfold bX
 split
 ·rename_i h; exact ⟨λ _ => h, λ _ => rfl⟩
 ·rename_i h; exact ⟨(λ q => by cases q), λ q => absurd q h⟩
theorem AB (H : Lw Z g t A j (bX g) false nV) (hj : j <= 800) :
  ∃ (p : PV) (Z' : St) (g' : G) (t' : T), gE [.ref A.dk, .ref g.hm, .ref A.ow] Z = some (p, Z') /\ Lw Z' g' t' A (j + 2) (bX g') false nV /\ g'.N = g.N /\ g'.hm = g.hm := by
 have hj2 : j + 1 + 1 = j + 2 := by lia
 refine ed (dB H (m := 16) (by decide) (by lia) [some (.ref A.dk), some (.ref g.hm), some (.ref A.ow), none, none, none, none, none, none] 0 rfl (e := aS 16) (λ _ => rfl)) λ a Z1 c1 a1 b1 H1 => ?_
 refine ed (dB H1 (m := 5) (by decide) (by lia) [some (.ref A.dk), some (.ref g.hm), some (.ref A.ow), none, none, none, none, none, none] 0 rfl (e := aS 5) (λ _ => rfl)) λ d Z2 c2 a2 b2 H2 => ?_
 have s1 := gz (ks := [3, 4]) (ip (aI c1 (aI (jN (f := dq) (a := aS 1) rfl c2 (show dq (.int 1) (.int d) Z2 = some (.int (1 + d), Z2) from rfl)) bZ)) (by show 2 <= 1000; decide)) rfl
 refine xf (BO H2.ps (a := a) (b := a + (1 + d)) (by lia)) λ p Z3 t3 L e1 e2 e3 e4 => ?_
 have hmm : a + (1 + d) - a = 1 + d := by lia
 rw [hmm] at e2 e4
 have hge := xu L (g.shut a (1 + d))
 have hlv := yx L (g.shut a (1 + d))
 generalize hg3 : G.goneL L (g.shut a (1 + d)) = g3 at e2 hge hlv
 have H3 : Lw Z3 g3 t3 A (j + 1 + 1) (bX g) false nV := H2.prog e2 e3 (λ x _ => by rw [hge]; rfl) (λ x hx => by rw [hge]; exact H2.fr x (Nat.le_trans e3.next hx)) (by rw [hge]; exact Nat.le_refl _) (by rw [hge]; exact H.nN) (λ k _ => by rw [hge]; rfl)
 have N3 : g3.N = g.N := by rw [hge]; rfl
 have hh := H2.ps.home
 have s2 : bi (mR 3 cE (ab 1) (ac (ab 3) (ac (bA dq (ab 3) (ab 4)) aj))) [some (.ref A.dk), some (.ref g.hm), some (.ref A.ow), some (.int a), some (.int (1 + d)), none, none, none, none] Z2 = some ((.next, [some (.ref A.dk), some (.ref g.hm), some (.ref A.ow), some (.int a), some (.int (1 + d)), none, none, none, none]), Z3) := by
  unfold bi mR
  show cb (if Bq 3 (.ref g.hm) Z2 = true then cb (some ([PV.int a, PV.int (a + (1 + d))], Z2)) _ else none) _ = _
  rw [if_pos (by unfold Bq; simp only [hh]; rfl)]
  show cb (cE [.ref g.hm, .int a, .int (a + (1 + d))] Z2) _ = _
  rw [e1]
  rfl
 have hsort := ny H3 (a := ab 2) (fr := [some (.ref A.dk), some (.ref g.hm), some (.ref A.ow), some (.int a), some (.int (1 + d)), none, none, none, none]) (Z0 := Z3) rfl
 generalize hns : ((List.range g3.N).filter (λ k => (bX g k).isSome)) = ns
 have hcan : (du g3.N (λ k => (bX g k).isSome)).map PV.int = ns.map (λ k : Nat => PV.int k) := by rw [<- hns]; unfold du; rw [List.map_map]; rfl
 rw [hcan] at hsort
 have nsn : ns.Nodup := by rw [<- hns]; exact List.nodup_range.sublist List.filter_sublist
 have nsm : ∀ k, k ∈ ns ↔ k < g.N /\ g.lv k = true := λ k => by
  rw [<- hns, List.mem_filter, List.mem_range, N3, ia]
  exact ⟨λ h => h.2, λ h => ⟨h.1, h⟩⟩
 generalize hσ4 : (Z3.push (.list (ns.map (λ k : Nat => PV.int k)))) = Z4 at hsort
 have H4 : Lw (Z4.set Z3.next (.flist (ns.map (λ k : Nat => PV.int k)))) g3 t3 A (j + 1 + 1) (bX g) false nV := H3.quiet (by rw [<- hσ4]; exact Nat.le_succ _) (λ x hx => by
  rw [aT, if_neg (by lia), <- hσ4]
  exact if_neg (by lia))
 have hit : cn (.ref Z3.next) Z4 = some (ns.map (λ k : Nat => PV.int k), Z4.set Z3.next (.flist (ns.map (λ k : Nat => PV.int k)))) := eO (by rw [<- hσ4]; exact if_pos rfl)
 obtain ⟨Z5, y5, y6, y7, y8, f1, f2⟩ := zH (hm := g.hm) (a := a) (m := 1 + d) ns none none none none H4 nsn (λ k hk => by
  have := (nsm k).mp hk
  exact ⟨by rw [N3]; exact this.1, ia.mpr this⟩)
 refine nZ .none Z5 g3 t3 ?_ ?_ N3 (by rw [hge]; rfl)
 ·unfold gE bg
  show cb (jL [some (.ref A.dk), some (.ref g.hm), some (.ref A.ow), none, none, none, none, none, none] Z) _ = _
  unfold jL
  rw [aD (fr1 := [some (.ref A.dk), some (.ref g.hm), some (.ref A.ow), some (.int a), some (.int (1 + d)), none, none, none, none]) s1 (av s2 (aD (Z1 := Z5) (fr1 := [some (.ref A.dk), some (.ref g.hm), some (.ref A.ow), some (.int a), some (.int (1 + d)), y5, y6, y7, y8]) (by
   unfold eX
   rw [aG hsort]
   show (match cn (.ref Z3.next) Z4 with | some (vs, Z2) => _ | none => none) = _
   rw [hit]
   exact f1) rfl))]
  rfl
 ·have hwe : wY a (1 + d) ns (bX g) = bX g3 := by
   funext k
   rw [yn _ _ _ _ nsn]
   have h3 : bX g3 k = if k < g.N /\ g3.lv k = true then some (et a (1 + d) (g.B k), et a (1 + d) (g.E k), g.fl k) else none := by
    unfold bX
    rw [hge]
    rfl
   have hlk : g3.lv k = (g.lv k && !(decide (k ∈ L) && (decide (et a (1 + d) (g.B k) = et a (1 + d) (g.E k)) && g.fl k))) := hlv k
   by_cases hk : k < g.N /\ g.lv k = true
   ·rw [if_pos ((nsm k).mpr hk), h3, hlk, hk.2]
    have hw : bX g k = some (g.B k, g.E k, g.fl k) := if_pos hk
    rw [hw]
    show l7 a (1 + d) (g.B k, g.E k, g.fl k) = _
    unfold l7
    dsimp only
    have hLk := e4 k
    have hbe : et a (1 + d) (g.B k) <= et a (1 + d) (g.E k) := rP (by lia) (H2.ps.be k hk.1 hk.2)
    by_cases hc : et a (1 + d) (g.B k) = et a (1 + d) (g.E k) /\ et a (1 + d) (g.E k) = a /\ g.fl k = true
    ·rw [if_pos hc, if_neg]
     have hin : k ∈ L := hLk.mpr ⟨hk.1, hk.2, by lia, by lia⟩
     simp [hin, hc.1, hc.2.2]
    ·rw [if_neg hc, if_pos]
     refine ⟨hk.1, ?_⟩
     by_cases h1 : k ∈ L
     ·by_cases h2 : et a (1 + d) (g.B k) = et a (1 + d) (g.E k)
      ·by_cases h4 : g.fl k = true
       ·have := hLk.mp h1
        exact absurd ⟨h2, by lia, h4⟩ hc
       ·simp [h4]
      ·simp [h2]
     ·simp [h1]
   ·rw [if_neg (λ q => hk ((nsm k).mp q)), h3, if_neg]
    ·exact if_neg hk
    ·rintro ⟨q1, q2⟩
     rw [hlk, Bool.and_eq_true] at q2
     exact hk ⟨q1, q2.1⟩
  rw [<- hwe, <- hj2]
  exact f2
end
end
section
section
variable {Z Z' : St} {g g' : G} {t t' : T} {A : zW} {j j' : Int} {w w' : Nat -> Option (Int × Int × Bool)} {z z' : Bool} {nV nV' : Nat} {D : List (Int × PV)} {ol : Nat}
theorem AA (H : Lw Z g t A j (bX g) false g.N) (hj : j <= 800) (hN : 0 < g.N) :
  ∃ (p : PV) (Z' : St) (g' : G) (t' : T), eZ [.ref A.dk, .ref g.hm, .ref A.ow, .ref A.ol] Z = some (p, Z') /\ Lw Z' g' t' A (j + 3) (bX g') false g'.N /\ g'.N = g.N /\ g'.hm = g.hm := by
 have hj3 : j + 1 + 1 + 1 = j + 3 := by lia
 refine ed (uw H (m := g.N) (by lia) (by lia)) λ d Z1 c1 a1 b1 H1 => ?_
 have c1' : ap bd (ac (ab 0) (ac (ap fM (ac (ab 3) aj)) aj)) [some (.ref A.dk), some (.ref g.hm), some (.ref A.ow), some (.ref A.ol), none, none, none, none] Z = some (.int d, Z1) :=
  bo (vs := [.ref A.dk, .int g.N]) (Z0 := Z) (aI rfl (aI (bo (vs := [.ref A.ol]) (Z0 := Z) rfl (by simp only [fM, H.ol]; rw [List.length_map, List.length_range])) bZ)) c1
 refine ed (dB H1 (m := 14) (by decide) (by lia) [some (.ref A.dk), some (.ref g.hm), some (.ref A.ow), some (.ref A.ol), none, none, none, none] 0 rfl (e := aS 14) (λ _ => rfl)) λ b Z2 c2 a2 b2 H2 => ?_
 refine ed (dB H2 (m := 3) (by decide) (by lia) [some (.ref A.dk), some (.ref g.hm), some (.ref A.ow), some (.ref A.ol), none, none, none, none] 0 rfl (e := aS 3) (λ _ => rfl)) λ s Z3 c3 a3 b3 H3 => ?_
 have s1 := gz (ks := [4, 5, 6]) (ip (aI c1' (aI c2 (aI c3 bZ))) (by show 3 <= 1000; decide)) rfl
 refine br (⟨d.toNat, by lia⟩ : ∃ k : Nat, d = k) λ k hk => ?_
 subst hk
 have hkN : k < g.N := by lia
 have hov := H3.ps.over k hkN
 have hpl := H3.ps.plist k hkN
 have holk : ∀ Z, Z.objs A.ol = .list ((List.range g.N).map (λ k => PV.ref (g.ov k))) -> ∀ y7, bp (ab 3) (ab 4) [some (.ref A.dk), some (.ref g.hm), some (.ref A.ow), some (.ref A.ol), some (.int k), some (.int b), some (.int s), y7] Z = some (.ref (g.ov k), Z) := λ Z h y7 =>
  eF (i := k) rfl rfl h (by rw [List.getElem?_map, List.getElem?_range hkN]; rfl)
 generalize hσ4 : Z3.push (.list []) = Z4
 have H4 : Lw Z4 g t A (j + 1 + 1 + 1) (bX g) false g.N := H3.quiet (by rw [<- hσ4]; exact Nat.le_succ _) (λ x hx => by rw [<- hσ4]; exact if_neg (by lia))
 have s2 : aF 7 (eD (ak da (bp (ab 3) (ab 4))) (az wP (cQ aj))) [some (.ref A.dk), some (.ref g.hm), some (.ref A.ow), some (.ref A.ol), some (.int k), some (.int b), some (.int s), none] Z3 = some ((.next, [some (.ref A.dk), some (.ref g.hm), some (.ref A.ow), some (.ref A.ol), some (.int k), some (.int b), some (.int s), some (.bool (g.fl k))]), Z4) := by
  have e1 : ak da (bp (ab 3) (ab 4)) [some (.ref A.dk), some (.ref g.hm), some (.ref A.ow), some (.ref A.ol), some (.int k), some (.int b), some (.int s), none] Z3 = some (.ref (g.pl k), Z3) := aB (i := g.ov k) (holk Z3 H3.ol none) hov rfl rfl
  have e2 : az wP (cQ aj) (.ref (g.pl k)) [some (.ref A.dk), some (.ref g.hm), some (.ref A.ow), some (.ref A.ol), some (.int k), some (.int b), some (.int s), none] Z3 = some (g.fl k, Z4) := by
   unfold az
   rw [aG (ji bZ (by show 0 <= 1000; decide)), hσ4]
   have h1 : Z4.objs (g.pl k) = .list (Bc (g.fl k)) := H4.ps.plist k hkN
   have h2 : Z4.objs Z3.next = .list [] := by rw [<- hσ4]; exact if_pos rfl
   simp only [wP, tx, cW, h1, h2]
   cases g.fl k <;> rfl
  unfold aF
  rw [aG (eE e1 e2)]
  rfl
 refine gX (yS H4.ps H.nN hkN (b := b) (e := b + s) (by lia)) λ Z5 t5 m1 m2 m3 => ?_
 generalize hg5 : (g.lay k b (b + s)).gone k (decide (b = b + s) && g.fl k) = g5 at m2
 have N5 : g5.N = g.N := by rw [<- hg5]; rfl
 have hm5 : g5.hm = g.hm := by rw [<- hg5]; rfl
 have H5 : Lw Z5 g5 t5 A (j + 1 + 1 + 1) (bX g) false g.N := H4.prog m2 m3 (λ x _ => by rw [<- hg5]; rfl) (λ x hx => by rw [<- hg5]; exact H4.fr x (Nat.le_trans m3.next hx)) (by rw [N5]; exact Nat.le_refl _) (by rw [N5]; exact H.nN) (λ i _ => by rw [<- hg5]; rfl)
 have s3 : bi (ap dK (ac (bp (ab 3) (ab 4)) (ac (ab 1) (ac (ab 5) (ac (bA dq (ab 5) (ab 6)) aj))))) [some (.ref A.dk), some (.ref g.hm), some (.ref A.ow), some (.ref A.ol), some (.int k), some (.int b), some (.int s), some (.bool (g.fl k))] Z4 = some ((.next, [some (.ref A.dk), some (.ref g.hm), some (.ref A.ow), some (.ref A.ol), some (.int k), some (.int b), some (.int s), some (.bool (g.fl k))]), Z5) :=
  cv (vs := [.ref (g.ov k), .ref g.hm, .int b, .int (b + s)]) (Z0 := Z4) (aI (holk Z4 H4.ol _) rfl) m1
 refine aQ (H5.row (k := k) (by lia) (m := ac (ab 5) (ac (bA dq (ab 5) (ab 6)) (ac (ab 7) aj))) (ie := ab 4) (fr := [some (.ref A.dk), some (.ref g.hm), some (.ref A.ow), some (.ref A.ol), some (.int k), some (.int b), some (.int s), some (.bool (g.fl k))]) (Z0 := Z5) (i := 2) (b := b) (e := b + s) (f := g.fl k) rfl rfl (λ _ => rfl)) λ Z6 s4 H6 => ?_
 have ht : (c9 (aY (ab 6) (az fq (aS 0))) (c9 (bz (ab 7)) cR)) [some (.ref A.dk), some (.ref g.hm), some (.ref A.ow), some (.ref A.ol), some (.int k), some (.int b), some (.int s), some (.bool (g.fl k))] Z6 = some (decide (b = b + s) && g.fl k, Z6) := by
  have h1 : aY (ab 6) (az fq (aS 0)) [some (.ref A.dk), some (.ref g.hm), some (.ref A.ow), some (.ref A.ol), some (.int k), some (.int b), some (.int s), some (.bool (g.fl k))] Z6 = some (decide (b = b + s), Z6) := by
   show some (decide (s = 0), Z6) = _
   congr 2
   exact decide_eq_decide.mpr ⟨λ h => by lia, λ h => by lia⟩
  unfold c9
  rw [aG h1]
  cases decide (b = b + s) <;> cases g.fl k <;> rfl
 have hrun : ∀ {Z7 fr7}, (cX (c9 (aY (ab 6) (az fq (aS 0))) (c9 (bz (ab 7)) cR)) (ai (wD (ab 2) (ab 4)) aA) aA) [some (.ref A.dk), some (.ref g.hm), some (.ref A.ow), some (.ref A.ol), some (.int k), some (.int b), some (.int s), some (.bool (g.fl k))] Z6 = some ((.next, fr7), Z7) -> eZ [.ref A.dk, .ref g.hm, .ref A.ow, .ref A.ol] Z = some (.none, Z7) := by
  intro Z7 fr7 h
  unfold eZ bg
  show cb (i8 [some (.ref A.dk), some (.ref g.hm), some (.ref A.ow), some (.ref A.ol), none, none, none, none] Z) _ = _
  unfold i8
  rw [aD s1 (aD s2 (av s3 (av s4 (aD h rfl))))]
  rfl
 have lv5 : g5.lv k = !(decide (b = b + s) && g.fl k) := by
  rw [<- hg5]
  show (if k = k then (if k = k then true else g.lv k) && !(decide (b = b + s) && g.fl k) else _) = _
  rw [if_pos rfl, if_pos rfl]; rfl
 have B5 : g5.B k = b := by rw [<- hg5]; exact if_pos rfl
 have E5 : g5.E k = b + s := by rw [<- hg5]; exact if_pos rfl
 have fl5 : g5.fl = g.fl := by rw [<- hg5]; rfl
 have oth5 : ∀ i, i ≠ k -> g5.lv i = g.lv i /\ g5.B i = g.B i /\ g5.E i = g.E i := λ i hi => by
  rw [<- hg5]
  exact ⟨(if_neg hi).trans (if_neg hi), if_neg hi, if_neg hi⟩
 cases hc : (decide (b = b + s) && g.fl k) with
 | true =>
  refine aQ (H6.del (k := k) (by show (if k = k then _ else _ : Option _).isSome = true; rw [if_pos rfl]; rfl) (ie := ab 4) (fr := [some (.ref A.dk), some (.ref g.hm), some (.ref A.ow), some (.ref A.ol), some (.int k), some (.int b), some (.int s), some (.bool (g.fl k))]) (i := 2) rfl rfl) λ Z7 s5 H7 => ?_
  refine nZ .none Z7 g5 t5 (hrun (dJ ht (by rw [hc]; exact av s5 rfl))) ?_ N5 hm5
  have hwe : upd (upd (bX g) k (some (b, b + s, g.fl k))) k none = bX g5 := by
   funext i
   show (if i = k then none else if i = k then _ else bX g i) = bX g5 i
   unfold bX
   by_cases q : i = k
   ·rw [if_pos q, q, lv5, hc]; simp
   ·refine bN (oth5 i q) λ z1 z2 z3 => ?_
    rw [if_neg q, if_neg q, N5, z1, z2, z3, fl5]
  rw [<- hwe, <- hj3, N5]; exact H7
 | false =>
  refine nZ .none Z6 g5 t5 (hrun (dJ ht (by rw [hc]; rfl))) ?_ N5 hm5
  have hwe : upd (bX g) k (some (b, b + s, g.fl k)) = bX g5 := by
   funext i
   show (if i = k then _ else bX g i) = bX g5 i
   unfold bX
   by_cases q : i = k
   ·rw [if_pos q, q, lv5, hc, N5, B5, E5, fl5]; simp [hkN]
   ·refine bN (oth5 i q) λ z1 z2 z3 => ?_
    rw [if_neg q, N5, z1, z2, z3, fl5]
  rw [<- hwe, <- hj3, N5]; exact H6
end
end
def Eo : ag -> M PV := (fS (ac (ap jW (ac (ap lS (ac (ap mz (ac (aS 100) aj)) aj)) aj)) (ac pU (ac (cQ aj) aj))))
theorem BZ (f : Nat -> ee) (fr : ag) : ∃ f', Eo fr ⟨f, 3⟩ = some (.tup [.ref 7, .ref 10, .ref 11], ⟨f', 12⟩) /\ (∀ a, a < 3 -> f' a = f a) /\ f' 5 = Gi 3 6 /\ f' 7 = .inst 3 [.ref 8, .ref 9, .ref 5] /\ f' 8 = .inst 1 [.none, .int 0] /\ f' 9 = .dict [] /\ f' 10 = .dict [] /\ f' 11 = .list [] := by
 refine ⟨_, rfl, λ a ha => ?_, rfl, rfl, rfl, rfl, rfl, rfl⟩
 match a, ha with
 | 0, _ => rfl
 | 1, _ => rfl
 | 2, _ => rfl
section
theorem rZ {α : Type} {r : α -> PV} {t : ag -> M Bool} {e : ag -> M PV} {fr : ag} {b : α -> Bool} {f : α -> PV} (Inv : St -> Prop) : ∀ (I : List α) (acc : List PV) (Z : St), Inv Z -> (∀ v ∈ I, ∀ Z, Inv Z -> ∃ Z', t (some (r v) :: fr) Z = some (b v, Z') /\ Inv Z') -> (∀ v ∈ I, ∀ Z, Inv Z -> e (some (r v) :: fr) Z = some (f v, Z)) -> acc.length + I.length <= 1000 ->
  ∃ Z', gj t e fr (I.map r) acc Z = some (acc ++ (I.filter b).map f, Z') /\ Inv Z'
 | [], acc, Z, h0, _, _, _ => ⟨Z, by simp [gj], h0⟩
 | v :: vs, acc, Z, h0, h1, h2, hz => by
  rw [List.length_cons] at hz
  refine aQ (h1 v (List.mem_cons_self ..) Z h0) λ Z1 e1 i1 => ?_
  show ∃ Z', cb (t (some (r v) :: fr) Z) _ = _ /\ _
  rw [aG e1]
  cases hb : b v with
  | false =>
   rw [List.filter_cons, hb]
   exact rZ Inv vs acc Z1 i1 (λ w hw => h1 w (List.mem_cons_of_mem _ hw)) (λ w hw => h2 w (List.mem_cons_of_mem _ hw)) (by lia)
  | true =>
   refine aQ (rZ Inv vs (acc ++ [f v]) Z1 i1 (λ w hw => h1 w (List.mem_cons_of_mem _ hw)) (λ w hw => h2 w (List.mem_cons_of_mem _ hw)) (by rw [List.length_append, List.length_singleton]; lia)) λ Z2 e3 i3 => ?_
   refine ⟨Z2, ?_, i3⟩
   show cb (e (some (r v) :: fr) Z1) _ = _
   rw [aG (h2 v (List.mem_cons_self ..) Z1 i1), if_pos (by lia), e3, List.filter_cons, hb]
   simp
theorem tC {α : Type} {r : α -> PV} {keep : List Bool} {a : ag -> M PV} {t : ag -> M Bool} {e : ag -> M PV} {fr : ag} {x : PV} {Z Z0 Z1 : St} {I : List α} {b : α -> Bool} {f : α -> PV} (Inv : St -> Prop) (ha : a fr Z0 = some (x, Z)) (hl : cn x Z = some (I.map r, Z1)) (hz : I.length <= 1000) (h0 : Inv Z1)
  (h1 : ∀ v ∈ I, ∀ Z, Inv Z -> ∃ Z', t (some (r v) :: gf keep fr) Z = some (b v, Z') /\ Inv Z') (h2 : ∀ v ∈ I, ∀ Z, Inv Z -> e (some (r v) :: gf keep fr) Z = some (f v, Z)) :
  ∃ Z2, dV keep a t e fr Z0 = some (.ref Z2.next, Z2.push (.list ((I.filter b).map f))) /\ Inv Z2 := by
 refine aQ (rZ (t := t) (e := e) (b := b) (f := f) Inv I [] Z1 h0 h1 h2 (by simpa using hz)) λ Z2 e2 i2 => ?_
 refine cC Z2 ?_ i2
 unfold dV
 rw [aG ha]
 rw [hl]
 show cb (gj _ _ _ _ _ _) _ = _
 rw [aG e2]
 unfold nP
 rw [if_pos (by rw [List.nil_append, List.length_map]; exact Nat.le_trans (List.length_filter_le _ _) hz)]
 rfl
theorem wo {N : Nat} {p q : Nat -> Bool} (h : ∀ k, k < N -> p k = q k) : du N p = du N q := by
 unfold du
 congr 1
 exact List.filter_congr (λ k hk => h k (List.mem_range.mp hk))
section
variable {Z Z' : St} {g g' : G} {t t' : T} {A : zW} {j j' : Int} {w w' : Nat -> Option (Int × Int × Bool)} {z z' : Bool} {nV nV' : Nat} {D : List (Int × PV)} {ol : Nat}
theorem Ba {a : ag -> M PV} {fr : ag} {Z Z0 : St} {r : Nat} {ks : List Int} (ha : a fr Z0 = some (.ref r, Z)) (hr : Z.objs r = .list (ks.map .int)) (hl : ks.length < 64) : ap cZ (ac a aj) fr Z0 = some (.ref Z.next, Z.push (.list ((nj ks).map .int))) := by
 refine bo (vs := [.ref r]) (Z0 := Z) (aI ha bZ) ?_
 have hk : kZ (.ref r) Z = some ks := by
  simp only [kZ, cW, hr, gr]
 unfold cZ
 dsimp only
 rw [hk]
 dsimp only
 rw [if_pos hl]
 have : (nj ks).length = ks.length := (List.mergeSort_perm ks (λ a b => decide (a <= b))).length_eq
 exact if_pos (by rw [List.length_map]; lia)
theorem yc (H : Lw Z g t A j w z nV) {c : ag -> M PV} {fr : ag} {keep : List Bool} {r0 : Nat} {Z1 : St} {t1 : T} {L : List Nat} {p : Nat -> Bool} (hc : c fr Z = some (.ref r0, Z1)) (P1 : PS Z1 g t1) (U1 : nh g Z Z1) (h0 : Z.next <= r0) (h1 : r0 < Z1.next) (ho : Z1.objs r0 = .list (L.map (λ k => .ref (g.ov k)))) (hn : L.Nodup) (hl : L.length <= 6) (hm : ∀ k, k ∈ L ↔ k < g.N /\ p k = true) :
  ∃ r Z', ap cZ (ac (dV keep c cR (ak bP (ab 0))) aj) fr Z = some (.ref r, Z') /\ Z'.objs r = .list ((du g.N p).map .int) /\ Lw Z' g t1 A j w z nV /\ r < Z'.next := by
 generalize hσ2 : Z1.set r0 (.flist (L.map (λ k => .ref (g.ov k)))) = Z2; revert Z2; refine qQ ?_; intro Z2 hσ2
 have hit : cn (.ref r0) Z1 = some (L.map (λ k => PV.ref (g.ov k)), Z2) := by rw [eO ho, hσ2]
 have o2 : ∀ a, a ≠ r0 -> Z2.objs a = Z1.objs a := λ a ha => by rw [<- hσ2, aT, if_neg ha]
 have x2 : Z2.next = Z1.next := by rw [<- hσ2]; rfl
 have hcomp := fP (α := Nat) (r := λ k => PV.ref (g.ov k)) (keep := keep) (a := c) (t := cR) (e := ak bP (ab 0)) (fr := fr) (Z0 := Z) (I := L) (b := λ _ => true) (f := λ k => .int k) hc hit (by lia) (λ _ _ => rfl) (λ k hk _ => by
  have hkN := ((hm k).mp hk).1
  have hov := H.ps.lov k hkN
  exact aB (i := g.ov k) rfl ((o2 _ (by exact Nat.ne_of_lt (Nat.lt_of_lt_of_le (by assumption) (by assumption)))).trans (P1.over k hkN)) rfl rfl)
 rw [List.filter_eq_self.mpr (λ _ _ => rfl)] at hcomp
 have hmap : L.map (λ k : Nat => PV.int k) = (L.map (λ k : Nat => (k : Int))).map .int := by rw [List.map_map]; rfl
 rw [hmap] at hcomp
 have hs := Ba (a := dV keep c cR (ak bP (ab 0))) hcomp (if_pos rfl) (by rw [List.length_map]; lia)
 rw [nu (N := g.N) (p := p) (by
  rw [List.nodup_iff_pairwise_ne, List.pairwise_map]
  exact (List.nodup_iff_pairwise_ne.mp hn).imp (λ h q => h (by lia))) (λ x => by
  rw [List.mem_map]
  constructor
  ·intro qq1; refine aQ qq1 λ k h qq2 => ?_; obtain rfl := qq2
   have := (hm k).mp h
   exact fk k this.1 this.2 rfl
  ·intro qq3; refine cj qq3 λ k h1 h2 qq4 => ?_; obtain rfl := qq4
   exact cC k ((hm k).mpr ⟨h1, h2⟩) rfl)] at hs
 refine qh _ _ hs (if_pos rfl) ?_ (Nat.lt_succ_self _)
 have u1 := U1.next
 have hold : ∀ a, a < Z.next -> ((Z2.push (.list ((L.map (λ k : Nat => (k : Int))).map .int))).push (.list ((du g.N p).map .int))).objs a = Z1.objs a := λ a ha => by
  show (if a = Z2.next + 1 then _ else if a = Z2.next then _ else Z2.objs a) = _
  rw [if_neg (by lia), if_neg (by lia)]
  exact o2 a (by exact Nat.ne_of_lt (Nat.lt_of_lt_of_le (by assumption) (by assumption)))
 have hle : Z1.next <= ((Z2.push (.list ((L.map (λ k : Nat => (k : Int))).map .int))).push (.list ((du g.N p).map .int))).next := by
  show Z1.next <= Z2.next + 1 + 1
  lia
 exact H.prog (H.ps.move P1 hold hle) ⟨Nat.le_trans u1 hle, λ a h1 h2 => (hold a h1).trans (U1.old a h1 h2)⟩ (λ _ _ => rfl) (λ a ha => H.fr a (Nat.le_trans (Nat.le_trans u1 hle) ha)) (Nat.le_refl _) H.nN (λ _ _ => rfl)
theorem yw (H : Lw Z g t A j (bX g) z nV) {a : ag -> M PV} {keep : List Bool} {tst : ag -> M Bool} {fr : ag} (ha : a fr Z = some (.ref A.ow, Z)) (q : Nat -> Bool) (ht : ∀ k, k < g.N -> g.lv k = true -> ∀ Z1, Lw Z1 g t A j (bX g) z nV -> ∃ Z2, tst (some (.int k) :: gf keep fr) Z1 = some (q k, Z2) /\ Z1.next <= Z2.next /\ ∀ a, a < Z1.next -> Z2.objs a = Z1.objs a) :
  ∃ r Z', dV keep (ap cZ (ac a aj)) tst (ab 0) fr Z = some (.ref r, Z') /\ Z'.objs r = .list ((du g.N (λ k => g.lv k && q k)).map .int) /\ Lw Z' g t A j (bX g) z nV /\ ∀ a, a < Z.next -> Z'.objs a = Z.objs a := by
 have hsort := ny H ha
 generalize hns : ((List.range g.N).filter (λ k => (bX g k).isSome)) = ns
 have hcan : (du g.N (λ k => (bX g k).isSome)).map PV.int = ns.map (λ k : Nat => PV.int k) := by rw [<- hns]; unfold du; rw [List.map_map]; rfl
 rw [hcan] at hsort
 have nsm : ∀ k, k ∈ ns ↔ k < g.N /\ g.lv k = true := λ k => by
  rw [<- hns, List.mem_filter, List.mem_range, ia]
  exact ⟨λ h => h.2, λ h => ⟨h.1, h⟩⟩
 have nsl : ns.length <= 1000 := by
  have := List.length_filter_le (λ k => (bX g k).isSome) (List.range g.N)
  rw [hns, List.length_range] at this
  have := H.nN
  lia
 generalize hσ4 : (Z.push (.list (ns.map (λ k : Nat => PV.int k)))) = Z4 at hsort
 have hit : cn (.ref Z.next) Z4 = some (ns.map (λ k : Nat => PV.int k), Z4.set Z.next (.flist (ns.map (λ k : Nat => PV.int k)))) := eO (by rw [<- hσ4]; exact if_pos rfl)
 have old : ∀ x, x < Z.next -> (Z4.set Z.next (.flist (ns.map (λ k : Nat => PV.int k)))).objs x = Z.objs x := λ x hx => by
  rw [aT, if_neg (by exact Nat.ne_of_lt (by assumption)), <- hσ4]
  exact if_neg (by exact Nat.ne_of_lt (by assumption))
 have nx : Z.next <= (Z4.set Z.next (.flist (ns.map (λ k : Nat => PV.int k)))).next := by rw [<- hσ4]; exact Nat.le_succ _
 obtain ⟨Z5, e1, i1, i2, i3⟩ := tC (α := Nat) (r := λ k => PV.int k) (keep := keep) (a := ap cZ (ac a aj)) (t := tst) (e := ab 0) (fr := fr) (b := q) (f := λ k => .int k) (λ Z1 => Lw Z1 g t A j (bX g) z nV /\ Z.next <= Z1.next /\ ∀ x, x < Z.next -> Z1.objs x = Z.objs x) hsort hit nsl ⟨H.quiet nx old, nx, old⟩ (λ k hk Z1 hi => by
  refine bN hi λ h1 h2 h3 => ?_
  have hkk := (nsm k).mp hk
  refine cj (ht k hkk.1 hkk.2 Z1 h1) λ Z2 t1 t2 t3 => ?_
  exact oB Z2 t1 (h1.quiet t2 t3) (Nat.le_trans h2 t2) (λ x hx => (t3 x (by exact Nat.le_trans (by assumption) (by assumption))).trans (h3 x hx))) (λ k _ Z1 _ => rfl)
 have hmap : (ns.filter q).map (λ k : Nat => PV.int k) = (du g.N (λ k => g.lv k && q k)).map .int := by
  unfold du
  rw [List.map_map, <- hns, List.filter_filter]
  show List.map _ _ = List.map _ _
  congr 1
  refine List.filter_congr (λ k hk => ?_)
  have : (bX g k).isSome = g.lv k := by
   have h := @ia g k
   have hk' := List.mem_range.mp hk
   cases hl : g.lv k with
   | true => exact h.mpr ⟨hk', hl⟩
   | false =>
    cases hs : (bX g k).isSome with
    | false => rfl
    | true => have := (h.mp hs).2; rw [hl] at this; cases this
  rw [this, Bool.and_comm]
 rw [hmap] at e1
 refine qh _ _ e1 (if_pos rfl) (i1.quiet (Nat.le_succ _) (λ x hx => if_neg (by exact Nat.ne_of_lt (by assumption)))) (λ x hx => ?_)
 show (if x = Z5.next then _ else Z5.objs x) = _
 rw [if_neg (by exact Nat.ne_of_lt (Nat.lt_of_lt_of_le (by assumption) (by assumption)))]
 exact i3 x hx
end
end
theorem wJ {a b : ag -> M PV} {fr : ag} {Z Z1 Z2 : St} {r1 r2 : Nat} {ks ls : List Int} (ha : a fr Z = some (.ref r1, Z1)) (hb : b fr Z1 = some (.ref r2, Z2)) (h1 : Z2.objs r1 = .list (ks.map .int)) (h2 : Z2.objs r2 = .list (ls.map .int)) : aY a (az wP b) fr Z = some (!decide (ks = ls), Z2) := by
 unfold aY az
 rw [aG ha, aG hb]
 simp only [wP, tx, cW, h1, h2, gr]
 rfl
noncomputable def Gm (b e s l : Int) : Bool := !decide (((List.range (l - s).toNat).filter (λ i : Nat => decide (b <= s + i) && decide (s + i < e))).map (λ i : Nat => s + (i : Int)) = [])
def jZ (b e s l z : Int) : Bool := if b < e then Gm b e s l || (decide (b < s) && (decide (s = l) && decide (l < e))) else decide (b = s) || ((decide (s < b) && decide (b < l)) || (decide (b = l) && decide (l = z)))
theorem Ej {b e s l : Int} : Gm b e s l = true ↔ ∃ x, s <= x /\ x < l /\ b <= x /\ x < e := by
 unfold Gm
 rw [Bool.not_eq_true', decide_eq_false_iff_not, List.map_eq_nil_iff, List.filter_eq_nil_iff]
 constructor
 ·intro h
  apply Classical.byContradiction
  intro h2
  refine h (λ i hi q => h2 ?_)
  rw [List.mem_range] at hi
  rw [Bool.and_eq_true, decide_eq_true_eq, decide_eq_true_eq] at q
  exact ⟨s + i, by omega, by omega, q.1, q.2⟩
 ·intro qq1 h; refine ke qq1 λ x h1 h2 h3 h4 => ?_
  refine h (x - s).toNat (List.mem_range.mpr (by omega)) ?_
  rw [Bool.and_eq_true, decide_eq_true_eq, decide_eq_true_eq]
  constructor <;> omega
theorem CB {b e s l z : Int} {i : Nat} {n : PV} (hsl : s <= l) (hbe : b <= e) : jZ b e s l z = true ↔ yA s l (decide (l = z)) ⟨i, n, b, e⟩ = true /\ gq s l ⟨i, n, b, e⟩ = true := by
 unfold jZ yA gq
 dsimp only
 by_cases h : b < e
 ·rw [if_pos h, if_pos h, Bool.or_eq_true, Ej]
  simp only [Bool.and_eq_true, decide_eq_true_eq]
  constructor
  ·rintro (⟨x, h1, h2, h3, h4⟩ | ⟨h1, h2, h3⟩)
   ·exact ⟨⟨by exact Int.lt_of_le_of_lt (by assumption) (by assumption), by exact Int.lt_of_le_of_lt (by assumption) (by assumption)⟩, by lia, by lia⟩
   ·exact ⟨⟨by exact Int.le_trans (by assumption) (by assumption), by exact Int.lt_of_le_of_lt (by assumption) (by assumption)⟩, by lia, by lia⟩
  ·rintro ⟨⟨h1, h2⟩, h3, h4⟩
   by_cases q : s = l
   ·exact .inr ⟨by lia, q, by lia⟩
   ·by_cases q2 : s <= b
    ·exact .inl ⟨b, by assumption, by assumption, by exact Int.le_refl _, by assumption⟩
    ·exact .inl ⟨s, by exact Int.le_refl _, by lia, by lia, by assumption⟩
 ·rw [if_neg h, if_neg h]
  simp only [Bool.and_eq_true, Bool.or_eq_true, decide_eq_true_eq]
  constructor
  ·intro q
   exact ⟨q, by lia, by lia⟩
  ·exact λ q => q.1
theorem zf {Z : St} {r : Nat} {b e s l z : Int} {f : Bool} (hr : Z.objs r = .list [.int b, .int e, .bool f]) (hlt : r < Z.next) (hs : 0 <= s) (hl : l <= 1000) (hsl : s <= l) :
  ∃ Z', dF [.ref r, .int s, .int l, .int z] Z = some (.bool (jZ b e s l z), Z') /\ Z.next <= Z'.next /\ ∀ a, a < Z.next -> Z'.objs a = Z.objs a := by
 have i0 : ∀ {Z1 : St}, Z1.objs r = .list [.int b, .int e, .bool f] -> bp (ab 0) (aS 0) [some (.ref r), some (.int s), some (.int l), some (.int z)] Z1 = some (.int b, Z1) := λ h => eF (i := 0) rfl rfl h rfl
 have i1 : ∀ {Z1 : St}, Z1.objs r = .list [.int b, .int e, .bool f] -> bp (ab 0) (aS 1) [some (.ref r), some (.int s), some (.int l), some (.int z)] Z1 = some (.int e, Z1) := λ h => eF (i := 1) rfl rfl h rfl
 have ht : aY (bp (ab 0) (aS 0)) (az iN (bp (ab 0) (aS 1))) [some (.ref r), some (.int s), some (.int l), some (.int z)] Z = some (decide (b < e), Z) := fF (i0 hr) (dx (i1 hr) rfl)
 by_cases h : b < e
 ·-- of some length
  have hit : cn (.rng s l) Z = some ((List.range (l - s).toNat).map (λ i : Nat => PV.int (s + i)), Z) := by
   unfold cn
   exact if_pos ⟨by lia, by lia, by lia, by lia⟩
  have hcomp := fP (α := Nat) (r := λ i : Nat => PV.int (s + i)) (keep := [true, false, false, false]) (a := ap fG (ac (ab 1) (ac (ab 2) aj))) (t := aY (bp (ab 1) (aS 0)) (cH oZ (ab 0) (az iN (bp (ab 1) (aS 1))))) (e := ab 0) (fr := [some (.ref r), some (.int s), some (.int l), some (.int z)]) (Z0 := Z) (b := λ i : Nat => decide (b <= s + i) && decide (s + i < e)) (f := λ i : Nat => PV.int (s + i)) (show ap fG (ac (ab 1) (ac (ab 2) aj)) [some (.ref r), some (.int s), some (.int l), some (.int z)] Z = some (.rng s l, Z) from rfl) hit (by rw [List.length_range]; lia) (λ i hi => fF (eF (i := 0) (l := r) rfl rfl hr rfl) (fn (y := .int (s + i)) rfl rfl (dx (eF (i := 1) (l := r) rfl rfl hr rfl) rfl))) (λ _ _ _ => rfl)
  have hmap : ((List.range (l - s).toNat).filter (λ i : Nat => decide (b <= s + i) && decide (s + i < e))).map (λ i : Nat => PV.int (s + i)) = (((List.range (l - s).toNat).filter (λ i : Nat => decide (b <= s + i) && decide (s + i < e))).map (λ i : Nat => s + (i : Int))).map .int := by rw [List.map_map]; rfl
  rw [hmap] at hcomp
  generalize hks : ((List.range (l - s).toNat).filter (λ i : Nat => decide (b <= s + i) && decide (s + i < e))).map (λ i : Nat => s + (i : Int)) = ks at hcomp
  have hrg : Gm b e s l = !decide (ks = []) := by rw [<- hks]; rfl
  generalize hσ2 : (Z.push (.list (ks.map .int))).push (.list []) = Z2
  have o2 : ∀ a, a < Z.next -> Z2.objs a = Z.objs a := λ a ha => by
   rw [<- hσ2]
   show (if a = Z.next + 1 then _ else if a = Z.next then _ else Z.objs a) = _
   rw [if_neg (by lia), if_neg (by exact Nat.ne_of_lt (by assumption))]
  have hr2 : Z2.objs r = .list [.int b, .int e, .bool f] := (o2 r hlt).trans hr
  have c1 : eD (dV [true, false, false, false] (ap fG (ac (ab 1) (ac (ab 2) aj))) (aY (bp (ab 1) (aS 0)) (cH oZ (ab 0) (az iN (bp (ab 1) (aS 1))))) (ab 0)) (az wP (cQ aj)) [some (.ref r), some (.int s), some (.int l), some (.int z)] Z = some (.bool (Gm b e s l), Z2) := by
   refine eE hcomp (dx (Z1 := Z2) (y := .ref (Z.next + 1)) (by rw [<- hσ2]; rfl) ?_)
   have q1 : Z2.objs Z.next = .list (ks.map .int) := by
    rw [<- hσ2]
    show (if Z.next = Z.next + 1 then _ else if Z.next = Z.next then _ else _) = _
    rw [if_neg (by exact Nat.ne_of_lt (Nat.lt_succ_self _)), if_pos rfl]
   have q2 : Z2.objs (Z.next + 1) = .list [] := by rw [<- hσ2]; exact if_pos rfl
   simp only [wP, tx, cW, q1, q2, gr, hrg]
   rfl
  have c2 : eD (bp (ab 0) (aS 0)) (cH iN (ab 1) (cH fq (ab 2) (az iN (bp (ab 0) (aS 1))))) [some (.ref r), some (.int s), some (.int l), some (.int z)] Z2 = some (.bool (decide (b < s) && (decide (s = l) && decide (l < e))), Z2) :=
   eE (i0 hr2) (fn (y := .int s) rfl rfl (fn (y := .int l) rfl rfl (dx (i1 hr2) rfl)))
  refine fk Z2 ?_ (by rw [<- hσ2]; show Z.next <= Z.next + 1 + 1; lia) o2
  unfold dF bg
  show cb (eN [some (.ref r), some (.int s), some (.int l), some (.int z)] Z) _ = _
  unfold eN
  have hv : jZ b e s l z = (Gm b e s l || (decide (b < s) && (decide (s = l) && decide (l < e)))) := if_pos h
  rw [bv (v := .bool (jZ b e s l z)) (fr1 := [some (.ref r), some (.int s), some (.int l), some (.int z)]) (Z1 := Z2) (dJ ht (by
   rw [decide_eq_true h, hv]
   exact bv (by unfold cJ; rw [aG (sP c1 c2)])))]
  rfl
 ·have c1 : eD (bp (ab 0) (aS 0)) (az fq (ab 1)) [some (.ref r), some (.int s), some (.int l), some (.int z)] Z = some (.bool (decide (b = s)), Z) := eE (i0 hr) (dx rfl rfl)
  have c2 : eD (ab 1) (cH iN (bp (ab 0) (aS 0)) (az iN (ab 2))) [some (.ref r), some (.int s), some (.int l), some (.int z)] Z = some (.bool (decide (s < b) && decide (b < l)), Z) := eE (x := .int s) rfl (fn (i0 hr) rfl (dx rfl rfl))
  have c3 : eD (bp (ab 0) (aS 0)) (cH fq (ab 2) (az fq (ab 3))) [some (.ref r), some (.int s), some (.int l), some (.int z)] Z = some (.bool (decide (b = l) && decide (l = z)), Z) := eE (i0 hr) (fn (y := .int l) rfl rfl (dx rfl rfl))
  refine fk Z ?_ (Nat.le_refl _) (λ _ _ => rfl)
  unfold dF bg
  show cb (eN [some (.ref r), some (.int s), some (.int l), some (.int z)] Z) _ = _
  unfold eN
  have hv : jZ b e s l z = (decide (b = s) || ((decide (s < b) && decide (b < l)) || (decide (b = l) && decide (l = z)))) := if_neg h
  rw [av (Z1 := Z) (dJ ht (by rw [decide_eq_false h]; rfl)) (bv (v := .bool (jZ b e s l z)) (fr1 := [some (.ref r), some (.int s), some (.int l), some (.int z)]) (Z1 := Z) (by unfold cJ; rw [hv, aG (sP c1 (sP c2 c3))]))]
  rfl
section
abbrev cM (x0 : Option PV) (A : zW) (h : Nat) (y5 y6 y7 y8 y9 y10 y11 y12 y13 : Option PV) : ag := [x0, some (.ref A.dk), some (.ref h), some (.ref A.ow), some (.ref A.ol), y5, y6, y7, y8, y9, y10, y11, y12, y13]
def sI : ag -> M (FR × ag) := (ai (bi (ap eV (ac (ab 1) (ac (ab 2) (ac (ab 3) (ac (ab 4) aj)))))) aA)
section
variable {Z Z' : St} {g g' : G} {t t' : T} {A : zW} {j j' : Int} {w w' : Nat -> Option (Int × Int × Bool)} {z z' : Bool} {nV nV' : Nat} {D : List (Int × PV)} {ol h : Nat} {x0 : Option PV}
theorem rE : ∀ (l : List PV) {Z : St} {g : G} {t : T} {j : Int} (y5 : Option PV), Lw Z g t A j (bX g) false g.N -> g.hm = h -> g.N + l.length <= 6 -> j + 4 * l.length <= 800 ->
  ∃ (Z' : St) (g' : G) (t' : T) (y5' : Option PV) (j' : Int), gC 5 sI l (cM x0 A h y5 none none none none none none none none) Z = some ((.next, cM x0 A h y5' none none none none none none none none), Z') /\ Lw Z' g' t' A j' (bX g') false g'.N /\ g'.hm = h /\ g'.N = g.N + l.length /\ j' <= j + 4 * l.length
 | [], Z, g, t, j, y5, H, hh, _, _ => ⟨Z, g, t, y5, j, rfl, H, hh, rfl, by simp⟩
 | v :: l, Z, g, t, j, y5, H, hh, hN, hj => by
  rw [List.length_cons] at hN hj
  refine xf (zj H (by lia) (by lia)) λ p Z1 g1 t1 e1 H1 n1 m1 => ?_
  refine zy (rE l (some v) H1 (m1.trans hh) (by lia) (by lia)) λ Z2 g2 t2 y5' j2 f1 f2 f3 f4 f5 => ?_
  refine BU Z2 g2 t2 y5' j2 ?_ f2 f3 (by rw [List.length_cons]; lia) (by rw [List.length_cons]; lia)
  show cb (sI (cM x0 A h (some v) none none none none none none none none) Z) _ = _
  have : sI (cM x0 A h (some v) none none none none none none none none) Z = some ((.next, cM x0 A h (some v) none none none none none none none none), Z1) := by
   unfold sI
   exact av (cv (vs := [.ref A.dk, .ref h, .ref A.ow, .ref A.ol]) (Z0 := Z) rfl (by rw [<- hh]; exact e1)) rfl
  rw [aG this]
  exact f1
theorem CR (H : Lw Z g t A j (bX g) false g.N) (hh : g.hm = h) (hN : g.N = 0) (hj : j <= 100) :
  ∃ (Z' : St) (g' : G) (t' : T) (y5' : Option PV) (j' : Int), eX 5 (ap fG (ac (bA dq (aS 1) (ap bd (ac (ab 1) (ac (aS 6) aj)))) aj)) sI (cM x0 A h none none none none none none none none none) Z = some ((.next, cM x0 A h y5' none none none none none none none none), Z') /\ Lw Z' g' t' A j' (bX g') false g'.N /\ g'.hm = h /\ 0 < g'.N /\ j' <= j + 25 := by
 refine ed (dB H (m := 6) (by decide) (by lia) (cM x0 A h none none none none none none none none none) 1 rfl (e := aS 6) (λ _ => rfl)) λ d Z1 c1 a1 b1 H1 => ?_
 have hl : (lX 0 (1 + d)).length = (1 + d).toNat := by unfold lX; rw [List.length_map, List.length_range]; congr 1; exact Int.add_right_comm ..
 refine zy (rE (h := h) (x0 := x0) (lX 0 (1 + d)) none H1 hh (by rw [hl]; lia) (by rw [hl]; lia)) λ Z2 g2 t2 y5' j2 f1 f2 f3 f4 f5 => ?_
 rw [hl] at f4 f5
 refine BU Z2 g2 t2 y5' j2 ?_ f2 f3 (by lia) (by lia)
 unfold eX
 rw [aG (bo (vs := [.int (1 + d)]) (Z0 := Z1) (aI (jN (f := dq) (x := .int 1) rfl c1 rfl) bZ) (show fG [.int (1 + d)] Z1 = some (.rng 0 (1 + d), Z1) from rfl))]
 have hi : cn (.rng 0 (1 + d)) Z1 = some (lX 0 (1 + d), Z1) := by
  unfold cn
  exact if_pos ⟨by decide, by decide, by lia, by lia⟩
 show (match cn (.rng 0 (1 + d)) Z1 with | some (vs, Z2) => _ | none => none) = _
 rw [hi]
 exact f1
theorem DW (H : Lw Z g t A j (bX g) false g.N) (hh : g.hm = h) (hN : 0 < g.N) (hj : j <= 100) (y5 : Option PV) :
  ∃ (Z' : St) (g' : G) (t' : T) (j' : Int), cX (aY (ap bd (ac (ab 1) (ac (aS 3) aj))) (az fq (aS 1))) (ai (bi (ap gE (ac (ab 1) (ac (ab 2) (ac (ab 3) aj))))) aA) aA (cM x0 A h y5 none none none none none none none none) Z = some ((.next, cM x0 A h y5 none none none none none none none none), Z') /\ Lw Z' g' t' A j' (bX g') false g'.N /\ g'.hm = h /\ 0 < g'.N /\ j' <= j + 3 := by
 refine ed (dB H (m := 3) (by decide) (by lia) (cM x0 A h y5 none none none none none none none none) 1 rfl (e := aS 3) (λ _ => rfl)) λ d Z1 c1 a1 b1 H1 => ?_
 have ht : aY (ap bd (ac (ab 1) (ac (aS 3) aj))) (az fq (aS 1)) (cM x0 A h y5 none none none none none none none none) Z = some (decide (d = 1), Z1) := fF c1 rfl
 by_cases q : d = 1
 ·refine xf (AB H1 (by lia)) λ p Z2 g2 t2 e1 e2 e3 e4 => ?_
  refine Ao Z2 g2 t2 (j + 1 + 2) (dJ ht (by rw [decide_eq_true q]; exact av (cv (vs := [.ref A.dk, .ref h, .ref A.ow]) (Z0 := Z1) rfl (by rw [<- hh]; exact e1)) rfl)) (by rw [e3]; exact e2) (e4.trans hh) (by lia) (by lia)
 ·exact Ao Z1 g t (j + 1) (dJ ht (by rw [decide_eq_false q]; rfl)) H1 hh hN (by lia)
theorem Bm (H : Lw Z g t A j (bX g) false g.N) (hh : g.hm = h) (hN : 0 < g.N) (hj : j <= 100) (y5 : Option PV) :
  ∃ (Z' : St) (g' : G) (t' : T) (j' : Int), cX (aY (ap bd (ac (ab 1) (ac (aS 3) aj))) (az fq (aS 1))) (ai (bi (ap eZ (ac (ab 1) (ac (ab 2) (ac (ab 3) (ac (ab 4) aj)))))) aA) aA (cM x0 A h y5 none none none none none none none none) Z = some ((.next, cM x0 A h y5 none none none none none none none none), Z') /\ Lw Z' g' t' A j' (bX g') false g'.N /\ g'.hm = h /\ 0 < g'.N /\ j' <= j + 4 := by
 refine ed (dB H (m := 3) (by decide) (by lia) (cM x0 A h y5 none none none none none none none none) 1 rfl (e := aS 3) (λ _ => rfl)) λ d Z1 c1 a1 b1 H1 => ?_
 have ht : aY (ap bd (ac (ab 1) (ac (aS 3) aj))) (az fq (aS 1)) (cM x0 A h y5 none none none none none none none none) Z = some (decide (d = 1), Z1) := fF c1 rfl
 by_cases q : d = 1
 ·refine xf (AA H1 (by lia) hN) λ p Z2 g2 t2 e1 e2 e3 e4 => ?_
  refine Ao Z2 g2 t2 (j + 1 + 3) (dJ ht (by rw [decide_eq_true q]; exact av (cv (vs := [.ref A.dk, .ref h, .ref A.ow, .ref A.ol]) (Z0 := Z1) rfl (by rw [<- hh]; exact e1)) rfl)) e2 (e4.trans hh) (by lia) (by lia)
 ·exact Ao Z1 g t (j + 1) (dJ ht (by rw [decide_eq_false q]; rfl)) H1 hh hN (by lia)
theorem xV (H : Lw Z g t A j w z nV) {a : ag -> M PV} {fr : ag} {Z0 : St} (ha : a fr Z0 = some (.ref g.od, Z)) : ap cZ (ac a aj) fr Z0 = some (.ref Z.next, Z.push (.list ((du g.N g.lv).map .int))) := by
 refine cj H.ps.sort λ D hD hl hs => ?_
 refine bo (vs := [.ref g.od]) (Z0 := Z) (aI ha bZ) ?_
 have hk : kZ (.ref g.od) Z = some (D.map (·.1)) := by simp only [kZ, cW, hD]
 unfold cZ
 dsimp only
 rw [hk]
 dsimp only
 rw [if_pos (by rw [List.length_map]; have := H.nN; lia), hs]
 exact if_pos (by rw [List.length_map]; have := rG g.N g.lv; have := H.nN; lia)
theorem Ef {k : Nat} (hk : k < g.N) : (bX g k).isSome = g.lv k := by
 have hh := @ia g k
 cases hl : g.lv k with
 | true => exact hh.mpr ⟨hk, hl⟩
 | false =>
  cases hs : (bX g k).isSome with
  | false => rfl
  | true => have := (hh.mp hs).2; rw [hl] at this; cases this
theorem DJ (H : Lw Z g t A j (bX g) z nV) (hh : g.hm = h) {y5 y6 y7 y8 y9 y10 y11 y12 y13 : Option PV} :
  ∃ Z', cX (aY (ap cZ (ac (ak ca (ab 2)) aj)) (az wP (ap cZ (ac (ab 3) aj)))) (ai (cJ (de false)) aA) aA (cM x0 A h y5 y6 y7 y8 y9 y10 y11 y12 y13) Z = some ((.next, cM x0 A h y5 y6 y7 y8 y9 y10 y11 y12 y13), Z') /\ Lw Z' g t A j (bX g) z nV := by
 have hhome := H.ps.home
 rw [hh] at hhome
 have h1 := xV H (a := ak ca (ab 2)) (fr := cM x0 A h y5 y6 y7 y8 y9 y10 y11 y12 y13) (Z0 := Z) (aB (i := h) rfl hhome rfl rfl)
 generalize hσ1 : Z.push (.list ((du g.N g.lv).map .int)) = Z1 at h1
 have H1 : Lw Z1 g t A j (bX g) z nV := H.quiet (by rw [<- hσ1]; exact Nat.le_succ _) (λ a ha => by rw [<- hσ1]; exact if_neg (by exact Nat.ne_of_lt (by assumption)))
 have h2 := ny H1 (a := ab 3) (fr := cM x0 A h y5 y6 y7 y8 y9 y10 y11 y12 y13) (Z0 := Z1) rfl
 generalize hσ2 : Z1.push (.list ((du g.N (λ k => (bX g k).isSome)).map .int)) = Z2 at h2
 have x1 : Z1.next = Z.next + 1 := by rw [<- hσ1]; rfl
 have ht := wJ (ks := du g.N g.lv) (ls := du g.N (λ k => (bX g k).isSome)) h1 h2 (by
  rw [<- hσ2]
  show (if Z.next = Z1.next then _ else Z1.objs Z.next) = _
  rw [if_neg (by lia), <- hσ1]
  exact if_pos rfl) (by rw [<- hσ2]; exact if_pos rfl)
 rw [wo (p := g.lv) (q := λ k => (bX g k).isSome) (λ k hk => (Ef hk).symm), decide_eq_true rfl] at ht
 exact cC Z2 (dJ ht rfl) (H1.quiet (by rw [<- hσ2]; exact Nat.le_succ _) (λ a ha => by rw [<- hσ2]; exact if_neg (by exact Nat.ne_of_lt (by assumption))))
def rM : ag -> M (FR × ag) := (ai (cX (aY (cQ (ac (ap cN (ac (bp (ab 4) (ab 6)) aj)) (ac (ap dc (ac (bp (ab 4) (ab 6)) aj)) aj))) (az wP (kB 2 (bp (ab 3) (ab 6))))) (ai (cJ (de false)) aA) aA) aA)
theorem xt {a : ag -> M PV} {fr : ag} {Z0 Z : St} {r : Nat} {vs : List PV} {n : Nat} (ha : a fr Z0 = some (.ref r, Z)) (hr : Z.objs r = .list vs) (hl : vs.length <= 1000) : kB n a fr Z0 = some (.ref Z.next, Z.push (.list (vs.take n))) := by
 unfold kB
 rw [aG ha]
 have : lP n (.ref r) Z = some (vs.take n) := by
  simp only [lP, cW, hr]
  rw [if_pos (by lia)]
  rfl
 rw [this]
 exact if_pos (by rw [List.length_take]; lia)
theorem oM {k : Nat} (hk : k < g.N) (hl : g.lv k = true) : bX g k = some (g.B k, g.E k, g.fl k) := if_pos ⟨hk, hl⟩
theorem Lw.prog0 (H : Lw Z g t A j w z nV) (P : PS Z' g t') (U : nh g Z Z') : Lw Z' g t' A j w z nV := H.prog P U (λ _ _ => rfl) (λ a ha => H.fr a (Nat.le_trans U.next ha)) (Nat.le_refl _) H.nN (λ _ _ => rfl)
theorem Lw.over (H : Lw Z g t A j w z g.N) {k : Nat} (hk : k < g.N) {a b : ag -> M PV} {fr : ag} {Z0 Z1 : St} (ha : a fr Z0 = some (.ref A.ol, Z1)) (hb : b fr Z1 = some (.int k, Z)) : bp a b fr Z0 = some (.ref (g.ov k), Z) :=
 eF (i := k) ha hb H.ol (by rw [List.getElem?_map, List.getElem?_range hk]; rfl)
theorem D8 (H : Lw Z g t A j (bX g) true g.N) {k : Nat} (hk : k < g.N) (hl : g.lv k = true) {y5 : Option PV} :
  ∃ Z' t', rM (cM x0 A h y5 (some (.int k)) none none none none none none none) Z = some ((.next, cM x0 A h y5 (some (.int k)) none none none none none none none), Z') /\ Lw Z' g t' A j (bX g) true g.N := by
 refine gX (rW H.ps hk hl) λ Z1 t1 b1 b2 b3 => ?_
 have H1 := H.prog0 b2 b3
 refine gX (xH H1.ps hk hl) λ Z2 t2 e1 e2 e3 => ?_
 have H2 := H1.prog0 e2 e3
 have c1 : ap cN (ac (bp (ab 4) (ab 6)) aj) (cM x0 A h y5 (some (.int k)) none none none none none none none) Z = some (.int (g.B k), Z1) := bo (vs := [.ref (g.ov k)]) (Z0 := Z) (aI (H.over hk rfl rfl) bZ) b1
 have c2 : ap dc (ac (bp (ab 4) (ab 6)) aj) (cM x0 A h y5 (some (.int k)) none none none none none none none) Z1 = some (.int (g.E k), Z2) := bo (vs := [.ref (g.ov k)]) (Z0 := Z1) (aI (H1.over hk rfl rfl) bZ) e1
 have c3 := ji (aI c1 (aI c2 bZ)) (by show 2 <= 1000; decide)
 generalize hσ3 : Z2.push (.list [.int (g.B k), .int (g.E k)]) = Z3 at c3
 have x3 : Z3.next = Z2.next + 1 := by rw [<- hσ3]; rfl
 have H3 : Lw Z3 g t2 A j (bX g) true g.N := H2.quiet (by lia) (λ a ha => by rw [<- hσ3]; exact if_neg (by lia))
 refine gJ (H3.read (oM hk hl) (a := ab 3) (ie := ab 6) (fr := cM x0 A h y5 (some (.int k)) none none none none none none none) (Z0 := Z3) (Z1 := Z3) rfl rfl) λ r r1 r2 r3 r4 r5 => ?_
 have c4 := xt (n := 2) r1 r5 (by show 3 <= 1000; decide)
 generalize hσ4 : Z3.push (.list (([.int (g.B k), .int (g.E k), .bool (g.fl k)] : List PV).take 2)) = Z4 at c4
 have ht := wJ (ks := [g.B k, g.E k]) (ls := [g.B k, g.E k]) c3 c4 (by
  rw [<- hσ4]
  show (if Z2.next = Z3.next then _ else Z3.objs Z2.next) = _
  rw [if_neg (by lia), <- hσ3]
  exact if_pos rfl) (by rw [<- hσ4]; exact if_pos rfl)
 rw [decide_eq_true rfl] at ht
 refine lW Z4 t2 ?_ (H3.quiet (by rw [<- hσ4]; exact Nat.le_succ _) (λ a ha => by rw [<- hσ4]; exact if_neg (by lia)))
 unfold rM
 exact av (dJ ht rfl) rfl
theorem zF : ∀ (l : List PV) {Z : St} {t : T} (y5 y6 : Option PV), Lw Z g t A j (bX g) true g.N -> (∀ v ∈ l, ∃ k : Nat, v = .int k /\ k < g.N /\ g.lv k = true) ->
  ∃ Z' t' y6', gC 6 rM l (cM x0 A h y5 y6 none none none none none none none) Z = some ((.next, cM x0 A h y5 y6' none none none none none none none), Z') /\ Lw Z' g t' A j (bX g) true g.N
 | [], Z, t, y5, y6, H, _ => ⟨Z, t, y6, rfl, H⟩
 | v :: l, Z, t, y5, y6, H, hL => by
  refine cj (hL v (List.mem_cons_self ..)) λ k qq1 h1 h2 => ?_; obtain rfl := qq1
  refine jn (D8 (h := h) (x0 := x0) H h1 h2 (y5 := y5)) λ Z1 t1 e1 e2 => ?_
  refine iV (zF l y5 (some (.int k)) e2 (λ v hv => hL v (List.mem_cons_of_mem _ hv))) λ Z2 t2 y6' f1 f2 => ?_
  refine z9 Z2 t2 y6' ?_ f2
  show cb (rM (cM x0 A h y5 (some (.int k)) none none none none none none none) Z) _ = _
  rw [aG e1]
  exact f1
theorem Lw.keys (H : Lw Z g t A j (bX g) z nV) : ∃ l Z', cn (.ref A.ow) Z = some (l, Z') /\ Lw Z' g t A j (bX g) true nV /\ l.length <= 6 /\ (∀ v ∈ l, ∃ k : Nat, v = .int k /\ k < g.N /\ g.lv k = true) /\ (∀ k : Nat, k < g.N -> g.lv k = true -> PV.int k ∈ l) /\ Z'.next = Z.next /\ (∀ a, a ≠ A.ow -> Z'.objs a = Z.objs a) /\ (z = true -> Z' = Z) := by
 have q1 := H.o1
 have q2 := H.o2
 have q3 := H.o3
 have q4 := H.o4
 refine aQ H.own λ D hD hO => ?_
 have hl := H.dlen hO
 have k1 : ∀ v ∈ D.map (λ kv => PV.int kv.1), ∃ k : Nat, v = .int k /\ k < g.N /\ g.lv k = true := λ v hv => by
  refine aQ (List.mem_map.mp hv) λ kv hkv qq2 => ?_; obtain rfl := qq2
  refine aQ (hO.mem kv hkv) λ k e1 e2 => ?_
  have := ia.mp e2
  exact fk k (by rw [e1]) this.1 this.2
 have k2 : ∀ k : Nat, k < g.N -> g.lv k = true -> PV.int k ∈ D.map (λ kv => PV.int kv.1) := λ k h1 h2 => by
  refine aQ (hO.get k _ _ _ (oM h1 h2)) λ r hr _ => ?_
  exact List.mem_map.mpr ⟨_, sG hr, rfl⟩
 cases z
 ·have hD' : Z.objs A.ow = .dict D := hD
  refine EM (D.map (λ kv => PV.int kv.1)) (Z.set A.ow (.fdict D)) (by simp only [cn, hD']) (H.turn (Nat.le_refl _) (λ a _ _ h _ => by rw [aT, if_neg h]) (by rw [aT, if_neg (by exact Nat.ne_of_lt (by assumption))]; exact H.dk) H.j0 ⟨D, if_pos rfl, hO.mono (λ _ _ => rfl) (Nat.le_refl _) (Nat.le_refl _) (λ a _ h _ => by rw [aT, if_neg (by lia)])⟩ (by rw [aT, if_neg (by exact Nat.ne_of_gt (by assumption))]; exact H.ol) H.nV) (by rw [List.length_map]; exact hl) k1 k2 rfl (λ a ha => by rw [aT, if_neg ha]) (λ q => by cases q)
 ·have hD' : Z.objs A.ow = .fdict D := hD
  exact EM (D.map (λ kv => PV.int kv.1)) Z (by simp only [cn, hD']) H (by rw [List.length_map]; exact hl) k1 k2 rfl (λ _ _ => rfl) (λ _ => rfl)
theorem AN (H : Lw Z g t A j (bX g) z g.N) (y5 : Option PV) :
  ∃ Z' t' y6', eX 6 (ab 3) rM (cM x0 A h y5 none none none none none none none none) Z = some ((.next, cM x0 A h y5 y6' none none none none none none none), Z') /\ Lw Z' g t' A j (bX g) true g.N := by
 refine GH H.keys λ l Z1 i1 H1 _ k1 _ => ?_
 refine iV (zF (h := h) (x0 := x0) l y5 none H1 k1) λ Z2 t2 y6' f1 f2 => ?_
 refine z9 Z2 t2 y6' ?_ f2
 unfold eX
 show (match cn (.ref A.ow) Z with | some (vs, Z2) => _ | none => none) = _
 rw [i1]
 exact f1
end
end
section
section
variable {Z Z' Z0 : St} {g g' : G} {t t' : T} {A : zW} {j j' : Int} {w w' : Nat -> Option (Int × Int × Bool)} {z z' : Bool} {nV nV' : Nat} {D : List (Int × PV)} {ol h : Nat} {x0 y5 y6 : Option PV}
theorem Cb (H : Lw Z g t A j w z nV) (hj : j <= 100) : ∃ (a s : Int) (Z' : St), dI [7, 8] (fS (ac (ap bd (ac (ab 1) (ac (aS 16) aj))) (ac (ap bd (ac (ab 1) (ac (aS 16) aj))) aj))) (cM x0 A h y5 y6 none none none none none none none) Z = some ((.next, cM x0 A h y5 y6 (some (.int a)) (some (.int s)) none none none none none), Z') /\ Lw Z' g t A (j + 2) w z nV /\ 0 <= a /\ a < 16 /\ 0 <= s /\ s < 16 := by
 refine ed (dB H (m := 16) (by decide) (by lia) (cM x0 A h y5 y6 none none none none none none none) 1 rfl (e := aS 16) (λ _ => rfl)) λ a Z1 c1 a1 b1 H1 => ?_
 refine ed (dB H1 (m := 16) (by decide) (by lia) (cM x0 A h y5 y6 none none none none none none none) 1 rfl (e := aS 16) (λ _ => rfl)) λ s Z2 c2 a2 b2 H2 => ?_
 have hj2 : j + 1 + 1 = j + 2 := by exact Int.add_assoc ..
 rw [hj2] at H2
 exact yl a s Z2 (gz (ip (aI c1 (aI c2 bZ)) (by show 2 <= 1000; decide)) rfl) H2 a1 b1 a2 b2
theorem Ch (H : Lw Z g t A j w z nV) (hj : j <= 100) {a s : Int} (hs0 : 0 <= s) (hs : s < 16) : ∃ (l e : Int) (Z' : St), dI [9, 10] (fS (ac (bA dq (ab 8) (ap bd (ac (ab 1) (ac (bA hH (aS 17) (ab 8)) aj)))) (ac (bA hH (aS 16) (ap bd (ac (ab 1) (ac (aS 2) aj)))) aj))) (cM x0 A h y5 y6 (some (.int a)) (some (.int s)) none none none none none) Z = some ((.next, cM x0 A h y5 y6 (some (.int a)) (some (.int s)) (some (.int l)) (some (.int e)) none none none), Z') /\ Lw Z' g t A (j + 2) w z nV /\ s <= l /\ l <= 100 := by
 refine ed (dB H (m := 17 - s) (by lia) (by lia) (cM x0 A h y5 y6 (some (.int a)) (some (.int s)) none none none none none) 1 rfl (e := bA hH (aS 17) (ab 8)) (λ _ => rfl)) λ d Z1 c1 a1 b1 H1 => ?_
 refine ed (dB H1 (m := 2) (by decide) (by lia) (cM x0 A h y5 y6 (some (.int a)) (some (.int s)) none none none none none) 1 rfl (e := aS 2) (λ _ => rfl)) λ d2 Z2 c2 a2 b2 H2 => ?_
 have hj2 : j + 1 + 1 = j + 2 := by lia
 rw [hj2] at H2
 exact qv (s + d) (16 - d2) Z2 (gz (ip (aI (jN (f := dq) (x := .int s) rfl c1 rfl) (aI (jN (f := hH) (x := .int 16) rfl c2 rfl) bZ)) (by show 2 <= 1000; decide)) rfl) H2 (by lia) (by lia)
theorem GD (H : Lw Z g t A j (bX g) z nV) (hh : g.hm = h) {a : Int} {y8 y9 y10 y11 y12 y13 : Option PV} :
  ∃ Z' t', cX (aY (ap cZ (ac (dV [false, false, false, false, false, false, false, false, false, false, false, false, false, false] (ap ey (ac (ab 2) (ac (ab 7) aj))) cR (ak bP (ab 0))) aj)) (az wP (dV [false, false, false, true, false, false, false, true, false, false, false, false, false, false] (ap cZ (ac (ab 3) aj)) (aY (bp (bp (ab 4) (ab 0)) (aS 0)) (cH oZ (ab 8) (az iN (bp (bp (ab 4) (ab 0)) (aS 1))))) (ab 0)))) (ai (cJ (de false)) aA) aA (cM x0 A h y5 y6 (some (.int a)) y8 y9 y10 y11 y12 y13) Z = some ((.next, cM x0 A h y5 y6 (some (.int a)) y8 y9 y10 y11 y12 y13), Z') /\ Lw Z' g t' A j (bX g) z nV := by
 refine Er (D5 H.ps a) λ r0 Z1 t1 L e1 e2 e3 e4 e5 e6 e7 e8 e9 => ?_
 obtain ⟨r, Z2, s1, s2, H2, s4⟩ := yc H (c := ap ey (ac (ab 2) (ac (ab 7) aj))) (fr := cM x0 A h y5 y6 (some (.int a)) y8 y9 y10 y11 y12 y13) (keep := [false, false, false, false, false, false, false, false, false, false, false, false, false, false]) (p := λ k => g.lv k && (decide (g.B k <= a) && decide (a < g.E k))) (bo (vs := [.ref h, .int a]) (Z0 := Z) rfl (by rw [<- hh]; exact e1)) e2 e3 e4 e5 e6 e7 e8 (λ k => by
  rw [e9]
  simp only [Bool.and_eq_true, decide_eq_true_eq])
 obtain ⟨r', Z3, u1, u2, H3, u4⟩ := yw H2 (a := ab 3) (keep := [false, false, false, true, false, false, false, true, false, false, false, false, false, false]) (tst := aY (bp (bp (ab 4) (ab 0)) (aS 0)) (cH oZ (ab 8) (az iN (bp (bp (ab 4) (ab 0)) (aS 1))))) (fr := cM x0 A h y5 y6 (some (.int a)) y8 y9 y10 y11 y12 y13) rfl (λ k => decide (g.B k <= a) && decide (a < g.E k)) (λ k hk hl Z1 H1 => by
  refine gJ (H1.read (oM hk hl) (a := ab 4) (ie := ab 0) (fr := some (.int k) :: gf [false, false, false, true, false, false, false, true, false, false, false, false, false, false] (cM x0 A h y5 y6 (some (.int a)) y8 y9 y10 y11 y12 y13)) (Z0 := Z1) (Z1 := Z1) rfl rfl) λ r r1 r2 r3 r4 r5 => ?_
  exact fk Z1 (fF (eF (i := 0) r1 rfl r5 rfl) (fn (y := .int a) rfl rfl (dx (eF (i := 1) r1 rfl r5 rfl) rfl))) (Nat.le_refl _) (λ _ _ => rfl))
 have ht := wJ s1 u1 ((u4 r s4).trans s2) u2
 rw [decide_eq_true rfl] at ht
 exact lW Z3 t1 (dJ ht rfl) H3
theorem Hp (H : Lw Z g t A j (bX g) z nV) (hh : g.hm = h) {s l e : Int} (hs : 0 <= s) (hsl : s <= l) (hl : l <= 100) {y7 y11 y12 y13 : Option PV} :
  ∃ Z' t', cX (aY (ap cZ (ac (dV [false, false, false, false, false, false, false, false, false, false, false, false, false, false] (ap ez (ac (ab 2) (ac (ab 8) (ac (ab 9) (ac (ab 10) aj))))) cR (ak bP (ab 0))) aj)) (az wP (dV [false, false, false, true, false, false, false, false, true, true, true, false, false, false] (ap cZ (ac (ab 3) aj)) (bz (ap dF (ac (bp (ab 4) (ab 0)) (ac (ab 9) (ac (ab 10) (ac (ab 11) aj)))))) (ab 0)))) (ai (cJ (de false)) aA) aA (cM x0 A h y5 y6 y7 (some (.int s)) (some (.int l)) (some (.int e)) y11 y12 y13) Z = some ((.next, cM x0 A h y5 y6 y7 (some (.int s)) (some (.int l)) (some (.int e)) y11 y12 y13), Z') /\ Lw Z' g t' A j (bX g) z nV := by
 refine Er (DK H.ps s l e) λ r0 Z1 t1 L e1 e2 e3 e4 e5 e6 e7 e8 e9 => ?_
 have hcan : ∀ k, k < g.N -> g.lv k = true -> (jZ (g.B k) (g.E k) s l e = true ↔ yA s l (decide (l = e)) (g.it k) = true /\ gq s l (g.it k) = true) := λ k hk hlv => CB hsl (H.ps.be k hk hlv)
 obtain ⟨r, Z2, s1, s2, H2, s4⟩ := yc H (c := ap ez (ac (ab 2) (ac (ab 8) (ac (ab 9) (ac (ab 10) aj))))) (fr := cM x0 A h y5 y6 y7 (some (.int s)) (some (.int l)) (some (.int e)) y11 y12 y13) (keep := [false, false, false, false, false, false, false, false, false, false, false, false, false, false]) (p := λ k => g.lv k && jZ (g.B k) (g.E k) s l e) (bo (vs := [.ref h, .int s, .int l, .int e]) (Z0 := Z) rfl (by rw [<- hh]; exact e1)) e2 e3 e4 e5 e6 e7 e8 (λ k => by
  rw [e9, Bool.and_eq_true]
  constructor
  ·intro qq1; refine bN qq1 λ a1 a2 a3 => ?_; exact ⟨a1, a2, (hcan k a1 a2).mpr a3⟩
  ·intro qq2; refine bN qq2 λ a1 a2 a3 => ?_; exact ⟨a1, a2, (hcan k a1 a2).mp a3⟩)
 obtain ⟨r', Z3, u1, u2, H3, u4⟩ := yw H2 (a := ab 3) (keep := [false, false, false, true, false, false, false, false, true, true, true, false, false, false]) (tst := bz (ap dF (ac (bp (ab 4) (ab 0)) (ac (ab 9) (ac (ab 10) (ac (ab 11) aj)))))) (fr := cM x0 A h y5 y6 y7 (some (.int s)) (some (.int l)) (some (.int e)) y11 y12 y13) rfl (λ k => jZ (g.B k) (g.E k) s l e) (λ k hk hlv Z1 H1 => by
  refine gJ (H1.read (oM hk hlv) (a := ab 4) (ie := ab 0) (fr := some (.int k) :: gf [false, false, false, true, false, false, false, false, true, true, true, false, false, false] (cM x0 A h y5 y6 y7 (some (.int s)) (some (.int l)) (some (.int e)) y11 y12 y13)) (Z0 := Z1) (Z1 := Z1) rfl rfl) λ r r1 r2 r3 r4 r5 => ?_
  refine cj (zf (s := s) (l := l) (z := e) r5 r3 hs (by lia) hsl) λ Z2 c1 c2 c3 => ?_
  refine fk Z2 ?_ c2 c3
  unfold bz
  rw [aG (bo (vs := [.ref r, .int s, .int l, .int e]) (Z0 := Z1) (aI r1 rfl) c1)]
  rfl)
 have ht := wJ s1 u1 ((u4 r s4).trans s2) u2
 rw [decide_eq_true rfl] at ht
 exact lW Z3 t1 (dJ ht rfl) H3
end
end
section
theorem DG (l : List Int) (d : Int) : ∃ m, (l ++ [d]).min? = some m /\ m ∈ l ++ [d] /\ ∀ x ∈ l ++ [d], m <= x := by
 cases h : (l ++ [d]).min? with
 | none =>
  rw [List.min?_eq_none_iff] at h
  simp at h
 | some m =>
  have := List.min?_eq_some_iff.mp h
  exact fk m rfl this.1 this.2
theorem DF (l : List Int) (d : Int) : ∃ m, (l ++ [d]).max? = some m /\ m ∈ l ++ [d] /\ ∀ x ∈ l ++ [d], x <= m := by
 cases h : (l ++ [d]).max? with
 | none =>
  rw [List.max?_eq_none_iff] at h
  simp at h
 | some m =>
  have := List.max?_eq_some_iff.mp h
  exact fk m rfl this.1 this.2
def sW : ag -> M (FR × ag) := (ai (bi (ds mi oE (ab 11) (kB 2 (bp (ab 3) (ab 6))))) aA)
section
variable {Z Z' Z0 : St} {g g' : G} {t t' : T} {A : zW} {j j' : Int} {w w' : Nat -> Option (Int × Int × Bool)} {z z' : Bool} {nV nV' : Nat} {D : List (Int × PV)} {ol h : Nat} {x0 y5 y6 : Option PV}
structure Ex (Z0 Z : St) (pr : Nat) (ks : List Int) : Prop where
 old : ∀ a, a < Z0.next -> Z.objs a = Z0.objs a
 lo : Z0.next <= pr
 hi : pr < Z.next
 pr : Z.objs pr = .list (ks.map .int)
theorem Ex.lw {p : Nat} {ks : List Int} (X : Ex Z0 Z p ks) (H : Lw Z0 g t A j w z nV) : Lw Z g t A j w z nV := H.quiet (by have := X.lo; have := X.hi; exact Nat.le_trans (by assumption) (Nat.le_of_lt (by assumption))) X.old
theorem Eg (H : Lw Z0 g t A j (bX g) true nV) {pr : Nat} {ks : List Int} (X : Ex Z0 Z pr ks) (hz : ks.length <= 100) {k : Nat} (hk : k < g.N) (hl : g.lv k = true) {y7 y8 y9 y10 y12 y13 : Option PV} :
  ∃ Z', sW (cM x0 A h y5 (some (.int k)) y7 y8 y9 y10 (some (.ref pr)) y12 y13) Z = some ((.next, cM x0 A h y5 (some (.int k)) y7 y8 y9 y10 (some (.ref pr)) y12 y13), Z') /\ Ex Z0 Z' pr (ks ++ [g.B k, g.E k]) := by
 have H1 := X.lw H
 refine gJ (H1.read (oM hk hl) (a := ab 3) (ie := ab 6) (fr := cM x0 A h y5 (some (.int k)) y7 y8 y9 y10 (some (.ref pr)) y12 y13) (Z0 := Z) (Z1 := Z) rfl rfl) λ r r1 r2 r3 r4 r5 => ?_
 have c4 := xt (n := 2) r1 r5 (by show 3 <= 1000; decide)
 generalize hσ1 : Z.push (.list (([.int (g.B k), .int (g.E k), .bool (g.fl k)] : List PV).take 2)) = Z1 at c4
 have x1 : Z1.next = Z.next + 1 := by rw [<- hσ1]; rfl
 have o1 : ∀ a, a < Z.next -> Z1.objs a = Z.objs a := λ a ha => by rw [<- hσ1]; exact if_neg (by exact Nat.ne_of_lt (by assumption))
 have n1 : Z1.objs Z.next = .list [.int (g.B k), .int (g.E k)] := by rw [<- hσ1]; exact if_pos rfl
 have xl := X.lo
 have xh := X.hi
 have p1 : Z1.objs pr = .list (ks.map .int) := (o1 pr xh).trans X.pr
 refine ⟨Z1.set pr (.list (ks.map .int ++ [.int (g.B k), .int (g.E k)])), ?_, ⟨λ a ha => ?_, xl, by show pr < Z1.next; lia, ?_⟩⟩
 ·unfold sW
  refine av ?_ rfl
  unfold bi
  rw [aG (a := .none) (Z := Z1.set pr (.list (ks.map .int ++ [.int (g.B k), .int (g.E k)])))]
  unfold ds
  show cb (some (PV.ref pr, Z)) _ = _
  show (if mi (.ref pr) Z = true then _ else _) = _
  rw [if_pos (by unfold mi; simp only [X.pr]), aG (show kB 2 (bp (ab 3) (ab 6)) (cM x0 A h y5 (some (.int k)) y7 y8 y9 y10 (some (.ref pr)) y12 y13) Z = some (.ref Z.next, Z1) from c4)]
  simp only [oE, p1, cW, n1]
  rw [if_pos (by rw [List.length_map]; show ks.length + 2 <= 1000; lia)]
 ·rw [aT, if_neg (by exact Nat.ne_of_lt (Nat.lt_of_lt_of_le (by assumption) (by assumption))), o1 a (by lia)]; exact X.old a ha
 ·rw [aT, if_pos rfl, List.map_append]; rfl
theorem Al (H : Lw Z0 g t A j (bX g) true nV) {pr : Nat} {y7 y8 y9 y10 y12 y13 : Option PV} : ∀ (l : List PV) {Z : St} {ks : List Int} (y6 : Option PV), Ex Z0 Z pr ks -> ks.length + 2 * l.length <= 100 -> (∀ v ∈ l, ∃ k : Nat, v = .int k /\ k < g.N /\ g.lv k = true) ->
  ∃ Z' y6' ks', gC 6 sW l (cM x0 A h y5 y6 y7 y8 y9 y10 (some (.ref pr)) y12 y13) Z = some ((.next, cM x0 A h y5 y6' y7 y8 y9 y10 (some (.ref pr)) y12 y13), Z') /\ Ex Z0 Z' pr ks' /\ ks'.length <= ks.length + 2 * l.length /\ ∀ x, x ∈ ks' ↔ x ∈ ks \/ ∃ k : Nat, PV.int k ∈ l /\ (x = g.B k \/ x = g.E k)
 | [], Z, ks, y6, X, _, _ => ⟨Z, y6, ks, rfl, X, by exact Nat.le_refl _, λ x => ⟨.inl, λ q => by
   rcases q with q | ⟨k, q, _⟩
   ·exact q
   ·cases q⟩⟩
 | v :: l, Z, ks, y6, X, hz, hL => by
  rw [List.length_cons] at hz
  refine cj (hL v (List.mem_cons_self ..)) λ k qq1 h1 h2 => ?_; obtain rfl := qq1
  refine aQ (Eg (h := h) (x0 := x0) (y5 := y5) (y7 := y7) (y8 := y8) (y9 := y9) (y10 := y10) (y12 := y12) (y13 := y13) H X (by lia) h1 h2) λ Z1 e1 X1 => ?_
  have hlen : (ks ++ [g.B k, g.E k]).length = ks.length + 2 := by rw [List.length_append]; rfl
  obtain ⟨Z2, y6', ks', f1, f2, f3, f4⟩ := Al H l (some (.int k)) X1 (by lia) (λ v hv => hL v (List.mem_cons_of_mem _ hv))
  refine qv Z2 y6' ks' ?_ f2 (by rw [List.length_cons]; lia) (λ x => ?_)
  ·show cb (sW (cM x0 A h y5 (some (.int k)) y7 y8 y9 y10 (some (.ref pr)) y12 y13) Z) _ = _
   rw [aG e1]
   exact f1
  ·rw [f4, List.mem_append]
   constructor
   ·rintro ((q | q) | ⟨i, q1, q2⟩)
    ·exact .inl q
    ·refine .inr ⟨k, List.mem_cons_self .., ?_⟩
     simpa using q
    ·exact .inr ⟨i, List.mem_cons_of_mem _ q1, q2⟩
   ·rintro (q | ⟨i, q1, q2⟩)
    ·exact .inl (.inl q)
    ·rcases List.mem_cons.mp q1 with q1 | q1
     ·have : i = k := by
       have := PV.int.inj q1
       lia
      subst this
      exact .inl (.inr (by simpa using q2))
     ·exact .inr ⟨i, q1, q2⟩
theorem DI (H : Lw Z g t A j (bX g) true nV) {y7 y8 y9 y10 y11 y12 y13 : Option PV} :
  ∃ Z1 Z' y6' ks pr, aF 11 (cQ aj) (cM x0 A h y5 y6 y7 y8 y9 y10 y11 y12 y13) Z = some ((.next, cM x0 A h y5 y6 y7 y8 y9 y10 (some (.ref pr)) y12 y13), Z1) /\ eX 6 (ab 3) sW (cM x0 A h y5 y6 y7 y8 y9 y10 (some (.ref pr)) y12 y13) Z1 = some ((.next, cM x0 A h y5 y6' y7 y8 y9 y10 (some (.ref pr)) y12 y13), Z') /\ Ex Z Z' pr ks /\ ks.length <= 100 /\ ∀ x, x ∈ ks ↔ ∃ k, k < g.N /\ g.lv k = true /\ (x = g.B k \/ x = g.E k) := by
 generalize hσ1 : Z.push (.list []) = Z1
 have x1 : Z1.next = Z.next + 1 := by rw [<- hσ1]; rfl
 have X1 : Ex Z Z1 Z.next [] := ⟨λ a ha => by rw [<- hσ1]; exact if_neg (by lia), Nat.le_refl _, by lia, by rw [<- hσ1]; exact if_pos rfl⟩
 have H1 := X1.lw H
 refine GW H1.keys λ l Z2 i1 H2 i2 k1 k2 i3 i4 i5 => ?_
 have i5 := i5 rfl
 subst i5
 refine kz (Al (h := h) (x0 := x0) (y5 := y5) (y7 := y7) (y8 := y8) (y9 := y9) (y10 := y10) (y12 := y12) (y13 := y13) H l y6 X1 (by show 0 + 2 * l.length <= 100; lia) k1) λ Z3 y6' ks f1 f2 f3 f4 => ?_
 refine BU Z2 Z3 y6' ks Z.next ?_ ?_ f2 (by have : ([] : List Int).length = 0 := rfl; lia) (λ x => ?_)
 ·rw [<- hσ1]; rfl
 ·unfold eX
  show (match cn (.ref A.ow) Z2 with | some (vs, Z2) => _ | none => none) = _
  rw [i1]
  exact f1
 ·rw [f4]
  constructor
  ·rintro (q | ⟨k, q1, q2⟩)
   ·cases q
   ·refine cj (k1 _ q1) λ i e1 e2 e3 => ?_
    have : k = i := by
     have := PV.int.inj e1
     lia
    subst this
    exact fk k e2 e3 q2
  ·intro qq1; refine cj qq1 λ k q1 q2 q3 => ?_
   exact .inr ⟨k, k2 k q1 q2, q3⟩
theorem zS {a b : ag -> M PV} {fr : ag} {Z Z1 Z2 : St} {r1 r2 : Nat} {ks ls : List Int} (ha : a fr Z = some (.ref r1, Z1)) (hb : b fr Z1 = some (.ref r2, Z2)) (h1 : Z2.objs r1 = .list (ks.map .int)) (h2 : Z2.objs r2 = .list (ls.map .int)) (hz : ks.length + ls.length <= 1000) : bA qY a b fr Z = some (.ref Z2.next, Z2.push (.list ((ks ++ ls).map .int))) := by
 refine jN ha hb ?_
 simp only [qY, h1, h2]
 rw [List.map_append]
 exact if_pos (by rw [List.length_append, List.length_map, List.length_map]; exact hz)
end
end
section
theorem C1 {a : ag -> M PV} {fr : ag} {Z Z1 : St} {r : Nat} {ks : List Int} {m : Int} (ha : a fr Z = some (.ref r, Z1)) (hr : Z1.objs r = .list (ks.map .int)) (hm : ks.min? = some m) : ap rV (ac a aj) fr Z = some (.int m, Z1) := by
 refine bo (vs := [.ref r]) (Z0 := Z1) (aI ha bZ) ?_
 have : (cW (.ref r) Z1).bind gY = some ks := by
  simp only [cW, hr, Option.bind, gr]
 unfold rV
 dsimp only
 rw [this]
 dsimp only
 rw [hm]
theorem CL {a : ag -> M PV} {fr : ag} {Z Z1 : St} {r : Nat} {ks : List Int} {m : Int} (ha : a fr Z = some (.ref r, Z1)) (hr : Z1.objs r = .list (ks.map .int)) (hm : ks.max? = some m) : ap sy (ac a aj) fr Z = some (.int m, Z1) := by
 refine bo (vs := [.ref r]) (Z0 := Z1) (aI ha bZ) ?_
 have : (cW (.ref r) Z1).bind gY = some ks := by
  simp only [cW, hr, Option.bind, gr]
 unfold sy
 dsimp only
 rw [this]
 dsimp only
 rw [hm]
theorem dN {Z : St} {o : ee} {a : Nat} (h : a < Z.next) : (Z.push o).objs a = Z.objs a := if_neg (by exact Nat.ne_of_lt (by assumption))
theorem ga {Z : St} {o : ee} : (Z.push o).objs Z.next = o := if_pos rfl
theorem ku {Z : St} {o : ee} : (Z.push o).next = Z.next + 1 := rfl
section
variable {Z Z' Z0 : St} {g g' : G} {t t' : T} {A : zW} {j j' : Int} {w w' : Nat -> Option (Int × Int × Bool)} {z z' : Bool} {nV nV' : Nat} {D : List (Int × PV)} {ol h : Nat} {x0 y5 y6 : Option PV}
theorem E0 {pr : Nat} {ks : List Int} {a : Int} (X : Ex Z0 Z pr ks) (hz : ks.length <= 100) {y8 y9 y10 : Option PV} :
  ∃ Z' pl pe, dI [12, 13] (fS (ac (dV [false, false, false, false, false, false, false, true, false, false, false, false, false, false] (ab 11) (aY (ab 8) (cH iN (ab 0) (az iN (aS 16)))) (ab 0)) (ac (dV [false, false, false, false, false, false, false, true, false, false, false, false, false, false] (ab 11) (aY (aS 0) (cH iN (ab 0) (az iN (ab 8)))) (ab 0)) aj))) (cM x0 A h y5 y6 (some (.int a)) y8 y9 y10 (some (.ref pr)) none none) Z = some ((.next, cM x0 A h y5 y6 (some (.int a)) y8 y9 y10 (some (.ref pr)) (some (.ref pl)) (some (.ref pe))), Z') /\
   Z0.next <= pl /\ Z0.next <= pe /\ pl < Z'.next /\ pe < Z'.next /\ (∀ x, x < Z0.next -> Z'.objs x = Z0.objs x) /\ Z'.objs pl = .list ((ks.filter (λ x => decide (a < x) && decide (x < 16))).map .int) /\ Z'.objs pe = .list ((ks.filter (λ x => decide (0 < x) && decide (x < a))).map .int) := by
 have xl := X.lo
 have xh := X.hi
 have hpr := X.pr
 generalize hσ1 : Z.set pr (.flist (ks.map .int)) = Z1
 have x1 : Z1.next = Z.next := by rw [<- hσ1]; rfl
 have o1 : ∀ x, x ≠ pr -> Z1.objs x = Z.objs x := λ x hx => by rw [<- hσ1, aT, if_neg hx]
 have i1 : cn (.ref pr) Z = some (ks.map PV.int, Z1) := by rw [eO hpr, hσ1]
 have c1 := fP (α := Int) (r := PV.int) (keep := [false, false, false, false, false, false, false, true, false, false, false, false, false, false]) (a := ab 11) (t := aY (ab 8) (cH iN (ab 0) (az iN (aS 16)))) (e := ab 0) (fr := cM x0 A h y5 y6 (some (.int a)) y8 y9 y10 (some (.ref pr)) none none) (Z0 := Z) (b := λ x => decide (a < x) && decide (x < 16)) (f := PV.int) rfl i1 (by lia) (λ x _ => fF (x := .int a) rfl (fn (y := .int x) rfl rfl (dx (y := .int 16) rfl rfl))) (λ _ _ _ => rfl)
 generalize hσ2 : Z1.push (.list ((ks.filter (λ x => decide (a < x) && decide (x < 16))).map .int)) = Z2 at c1
 have x2 : Z2.next = Z1.next + 1 := by rw [<- hσ2]; rfl
 have i2 : cn (.ref pr) Z2 = some (ks.map PV.int, Z2) := by
  have : Z2.objs pr = .flist (ks.map .int) := by
   rw [<- hσ2, dN (by lia), <- hσ1]
   exact if_pos rfl
  unfold cn
  simp only [this]
 have c2 := fP (α := Int) (r := PV.int) (keep := [false, false, false, false, false, false, false, true, false, false, false, false, false, false]) (a := ab 11) (t := aY (aS 0) (cH iN (ab 0) (az iN (ab 8)))) (e := ab 0) (fr := cM x0 A h y5 y6 (some (.int a)) y8 y9 y10 (some (.ref pr)) none none) (Z0 := Z2) (b := λ x => decide (0 < x) && decide (x < a)) (f := PV.int) rfl i2 (by lia) (λ x _ => fF (x := .int 0) rfl (fn (y := .int x) rfl rfl (dx (y := .int a) rfl rfl))) (λ _ _ _ => rfl)
 refine Hb _ Z1.next Z2.next (gz (ip (aI c1 (aI c2 bZ)) (by show 2 <= 1000; decide)) rfl) (by lia) (by lia) ?_ ?_ (λ x hx => ?_) ?_ ga
 ·rw [ku]; lia
 ·rw [ku]; exact Nat.le_refl _
 ·rw [dN (by lia), <- hσ2, dN (by lia), o1 x (by exact Nat.ne_of_lt (Nat.lt_of_lt_of_le (by assumption) (by assumption)))]
  exact X.old x hx
 ·rw [dN (by lia), <- hσ2]
  exact ga
theorem CT (H : Lw Z g t A j w z nV) (hh : g.hm = h) {pl pe : Nat} {L1 L2 : List Int} {a : Int} (h1 : pl < Z.next) (h2 : pe < Z.next) (k1 : 10 <= (g.tag pl).1) (k2 : 10 <= (g.tag pe).1) (o1 : Z.objs pl = .list (L1.map .int)) (o2 : Z.objs pe = .list (L2.map .int)) (z1 : L1.length <= 100) (z2 : L2.length <= 100)
  (m1 : ∀ x, x ∈ L1 ↔ (∃ k, k < g.N /\ g.lv k = true /\ (x = g.B k \/ x = g.E k)) /\ a < x /\ x < 16) (m2 : ∀ x, x ∈ L2 ↔ (∃ k, k < g.N /\ g.lv k = true /\ (x = g.B k \/ x = g.E k)) /\ 0 < x /\ x < a) {y8 y9 y10 y11 : Option PV} :
  ∃ Z', cJ (eD (cQ (ac (ap cD (ac (ab 2) (ac (ab 7) (ac (aS 16) aj)))) (ac (ap bY (ac (ab 2) (ac (ab 7) (ac (aS 0) aj)))) aj))) (az fq (cQ (ac (ap rV (ac (bA qY (ab 12) (cQ (ac (aS 16) aj))) aj)) (ac (ap sy (ac (bA qY (ab 13) (cQ (ac (aS 0) aj))) aj)) aj))))) (cM x0 A h y5 y6 (some (.int a)) y8 y9 y10 y11 (some (.ref pl)) (some (.ref pe))) Z = some ((.ret (.bool true), cM x0 A h y5 y6 (some (.int a)) y8 y9 y10 y11 (some (.ref pl)) (some (.ref pe))), Z') := by
 refine xe (Ge H.ps a 16) λ M1 Z1 t1 a1 a2 a3 a4 a5 a6 => ?_
 have H1 := H.prog0 a2 a3
 refine xe (Fv H1.ps a 0) λ M2 Z2 t2 b1 b2 b3 b4 b5 b6 => ?_
 rw [hh] at a1 b1
 have u1 := a3.next
 have u2 := b3.next
 have p1 : Z2.objs pl = .list (L1.map .int) := (b3.old pl (by exact Nat.le_trans (by assumption) (by assumption)) k1).trans ((a3.old pl h1 k1).trans o1)
 have p2 : Z2.objs pe = .list (L2.map .int) := (b3.old pe (by exact Nat.le_trans (by assumption) (by assumption)) k2).trans ((a3.old pe h2 k2).trans o2)
 refine cj (DG L1 16) λ n1 q1 q2 q3 => ?_
 refine cj (DF L2 0) λ n2 r1 r2 r3 => ?_
 have e1 : M1 = n1 := by
  have le1 : n1 <= M1 := by
   rcases a6 with rfl | ⟨k, s1, s2, s3, s4, s5⟩
   ·exact q3 16 (by exact List.mem_append_right _ (List.mem_cons_self ..))
   ·exact q3 M1 (List.mem_append_left _ ((m1 M1).mpr ⟨⟨k, s1, s2, s3⟩, s4, s5⟩))
  have le2 : M1 <= n1 := by
   rcases List.mem_append.mp q2 with s | s
   ·refine bN ((m1 n1).mp s) λ qq1 s4 s5 => ?_; obtain ⟨k, s1, s2, s3⟩ := qq1
    exact a5 k s1 s2 n1 s3 s4 s5
   ·have : n1 = 16 := by simpa using s
    lia
  exact Int.le_antisymm (by assumption) (by assumption)
 have e2 : M2 = n2 := by
  have le1 : M2 <= n2 := by
   rcases b6 with rfl | ⟨k, s1, s2, s3, s4, s5⟩
   ·exact r3 0 (by exact List.mem_append_right _ (List.mem_cons_self ..))
   ·exact r3 M2 (List.mem_append_left _ ((m2 M2).mpr ⟨⟨k, s1, s2, s3⟩, s5, s4⟩))
  have le2 : n2 <= M2 := by
   rcases List.mem_append.mp r2 with s | s
   ·refine bN ((m2 n2).mp s) λ qq2 s4 s5 => ?_; obtain ⟨k, s1, s2, s3⟩ := qq2
    exact b5 k s1 s2 n2 s3 s5 s4
   ·have : n2 = 0 := by simpa using s
    lia
  exact Int.le_antisymm (by assumption) (by assumption)
 have c1 : ap cD (ac (ab 2) (ac (ab 7) (ac (aS 16) aj))) (cM x0 A h y5 y6 (some (.int a)) y8 y9 y10 y11 (some (.ref pl)) (some (.ref pe))) Z = some (.int M1, Z1) := bo (vs := [.ref h, .int a, .int 16]) (Z0 := Z) rfl a1
 have c2 : ap bY (ac (ab 2) (ac (ab 7) (ac (aS 0) aj))) (cM x0 A h y5 y6 (some (.int a)) y8 y9 y10 y11 (some (.ref pl)) (some (.ref pe))) Z1 = some (.int M2, Z2) := bo (vs := [.ref h, .int a, .int 0]) (Z0 := Z1) rfl b1
 have c3 := ji (aI c1 (aI c2 bZ)) (by show 2 <= 1000; decide)
 generalize hσ3 : Z2.push (.list [.int M1, .int M2]) = Z3 at c3
 have x3 : Z3.next = Z2.next + 1 := by rw [<- hσ3]; rfl
 have d1 : cQ (ac (aS 16) aj) (cM x0 A h y5 y6 (some (.int a)) y8 y9 y10 y11 (some (.ref pl)) (some (.ref pe))) Z3 = some (.ref Z3.next, Z3.push (.list [.int 16])) := rfl
 generalize hσ4 : Z3.push (.list [.int 16]) = Z4 at d1
 have x4 : Z4.next = Z3.next + 1 := by rw [<- hσ4]; rfl
 have d2 := zS (ks := L1) (ls := [16]) (a := ab 12) (Z1 := Z3) (r1 := pl) rfl d1 (by rw [<- hσ4, dN (by lia), <- hσ3, dN (by lia)]; exact p1) (by rw [<- hσ4]; exact ga) (by show L1.length + 1 <= 1000; lia)
 generalize hσ5 : Z4.push (.list ((L1 ++ [16]).map .int)) = Z5 at d2
 have x5 : Z5.next = Z4.next + 1 := by rw [<- hσ5]; rfl
 have d3 := C1 d2 (by rw [<- hσ5]; exact ga) q1
 have d4 : cQ (ac (aS 0) aj) (cM x0 A h y5 y6 (some (.int a)) y8 y9 y10 y11 (some (.ref pl)) (some (.ref pe))) Z5 = some (.ref Z5.next, Z5.push (.list [.int 0])) := rfl
 generalize hσ6 : Z5.push (.list [.int 0]) = Z6 at d4
 have x6 : Z6.next = Z5.next + 1 := by rw [<- hσ6]; rfl
 have d5 := zS (ks := L2) (ls := [0]) (a := ab 13) (Z1 := Z5) (r1 := pe) rfl d4 (by rw [<- hσ6, dN (by lia), <- hσ5, dN (by lia), <- hσ4, dN (by lia), <- hσ3, dN (by lia)]; exact p2) (by rw [<- hσ6]; exact ga) (by show L2.length + 1 <= 1000; lia)
 generalize hσ7 : Z6.push (.list ((L2 ++ [0]).map .int)) = Z7 at d5
 have x7 : Z7.next = Z6.next + 1 := by rw [<- hσ7]; rfl
 have d6 := CL d5 (by rw [<- hσ7]; exact ga) r1
 have d7 := ji (aI d3 (aI d6 bZ)) (by show 2 <= 1000; decide)
 generalize hσ8 : Z7.push (.list [.int n1, .int n2]) = Z8 at d7
 have w1 : Z8.objs Z2.next = .list (([M1, M2] : List Int).map .int) := by
  rw [<- hσ8, dN (by lia), <- hσ7, dN (by lia), <- hσ6, dN (by lia), <- hσ5, dN (by lia), <- hσ4, dN (by lia), <- hσ3]
  exact ga
 have w2 : Z8.objs Z7.next = .list (([n1, n2] : List Int).map .int) := by rw [<- hσ8]; exact ga
 refine ⟨Z8, ?_⟩
 unfold cJ
 rw [aG (eE c3 (dx (w := true) d7 ?_))]
 simp only [fq, tx, cW, w1, w2, gr, e1, e2, decide_true]
end
end
noncomputable def g0 : G where
 hm := 7
 ru := 5
 tr := 8
 od := 9
 ov := λ _ => 0
 nd := λ _ => 0
 pl := λ _ => 0
 tag := λ a => if a = 7 then (1, 0) else if a = 5 then (2, 0) else if a = 8 then (3, 0) else if a = 9 then (4, 0) else (10, 0)
 N := 0
 lv := λ _ => false
 fl := λ _ => false
 B := λ _ => 0
 E := λ _ => 0
noncomputable def A0 : zW := ⟨2, 1, 10, 11⟩
noncomputable def xK (k : Int) : Int := if k < 0 then -k else k
theorem Bk (ks : List Int) (h : ks.length <= 1000) (y2 y3 y4 y5 y6 y7 y8 y9 y10 y11 y12 y13 : Option PV) : ∃ f, aF 1 (cQ (ac (dV [false, false, false, false, false, false, false, false, false, false, false, false, false, false] (kB 63 (ab 0)) cR (ap Cg (ac (ab 0) aj))) (ac (aS 0) aj))) [some (.scr ks), none, y2, y3, y4, y5, y6, y7, y8, y9, y10, y11, y12, y13] ⟨λ _ => .list [], 0⟩ = some ((.next, [some (.scr ks), some (.ref 2), y2, y3, y4, y5, y6, y7, y8, y9, y10, y11, y12, y13]), ⟨f, 3⟩) /\ f 1 = .list (((ks.take 63).map xK).map .int) /\ f 2 = .list [.ref 1, .int 0] := by
 have hz : ((ks.map PV.int).take 63).length <= 1000 := by rw [List.length_take]; lia
 generalize hσ1 : (St.push ⟨λ _ => .list [], 0⟩ (.list ((ks.map PV.int).take 63))) = Z1
 have x1 : Z1.next = 1 := by rw [<- hσ1]; rfl
 have ht : kB 63 (ab 0) [some (.scr ks), none, y2, y3, y4, y5, y6, y7, y8, y9, y10, y11, y12, y13] ⟨λ _ => .list [], 0⟩ = some (.ref 0, Z1) := by
  unfold kB
  show (match lP 63 (.scr ks) _ with | some ws => nP ws _ | none => none) = _
  have : lP 63 (.scr ks) ⟨λ _ => .list [], 0⟩ = some ((ks.map PV.int).take 63) := by
   unfold lP
   rw [if_pos (by decide)]
   exact if_pos h
  rw [this, <- hσ1]
  exact if_pos hz
 have ho : Z1.objs 0 = .list ((ks.take 63).map PV.int) := by rw [<- hσ1, List.map_take]; rfl
 generalize hσ2 : Z1.set 0 (.flist ((ks.take 63).map PV.int)) = Z2
 have x2 : Z2.next = 1 := by rw [<- hσ2]; exact x1
 have hit : cn (.ref 0) Z1 = some ((ks.take 63).map PV.int, Z2) := by rw [eO ho, hσ2]
 have c := fP (α := Int) (r := PV.int) (keep := [false, false, false, false, false, false, false, false, false, false, false, false, false, false]) (a := kB 63 (ab 0)) (t := cR) (e := ap Cg (ac (ab 0) aj)) (fr := [some (.scr ks), none, y2, y3, y4, y5, y6, y7, y8, y9, y10, y11, y12, y13]) (b := λ _ => true) (f := λ x => .int (xK x)) ht hit (by rw [List.length_take]; lia) (λ _ _ => rfl) (λ _ _ _ => rfl)
 rw [List.filter_eq_self.mpr (λ _ _ => rfl), x2] at c
 have c2 := ji (aI c (aI (show aS 0 _ _ = some (PV.int 0, _) from rfl) bZ)) (by show 2 <= 1000; decide)
 have hst : (Z2.push (.list ((ks.take 63).map (λ x => PV.int (xK x))))).push (.list [.ref 1, .int 0]) = ⟨((Z2.push (.list ((ks.take 63).map (λ x => PV.int (xK x))))).push (.list [.ref 1, .int 0])).objs, 3⟩ := by
  show St.mk _ (Z2.next + 1 + 1) = St.mk _ 3
  rw [x2]
  rfl
 refine ⟨((Z2.push (.list ((ks.take 63).map (λ x => PV.int (xK x))))).push (.list [.ref 1, .int 0])).objs, ?_, ?_, ?_⟩
 ·unfold aF
  rw [aG c2, hst]
  show some _ = some _
  rw [ku, x2]
  rfl
 ·rw [dN (by rw [ku, x2]; decide)]
  have := ga (Z := Z2) (o := .list ((ks.take 63).map (λ x => PV.int (xK x))))
  rw [x2] at this
  rw [this, List.map_map]
  rfl
 ·have := ga (Z := Z2.push (.list ((ks.take 63).map (λ x => PV.int (xK x))))) (o := .list [.ref 1, .int 0])
  rw [ku, x2] at this
  exact this
theorem CO {f : Nat -> ee} {ks : List Int} (h1 : f 1 = .list (ks.map .int)) (hk : ks.length <= 63) (h2 : f 2 = .list [.ref 1, .int 0]) (h5 : f 5 = Gi 3 6) (h7 : f 7 = .inst 3 [.ref 8, .ref 9, .ref 5]) (h8 : f 8 = .inst 1 [.none, .int 0]) (h9 : f 9 = .dict []) (h10 : f 10 = .dict []) (h11 : f 11 = .list []) : Lw ⟨f, 12⟩ g0 .E A0 0 (bX g0) false 0 := by
 have no : ∀ {k : Nat} {P : Prop}, k < g0.N -> P := λ h => absurd h (Nat.not_lt_zero _)
 refine ⟨⟨h7, ⟨3, 6, h5⟩, ⟨⟨0, h8⟩, trivial, by simp [T.ids, T.nodes], λ a ha => ?_⟩, trivial, by decide +kernel, List.Pairwise.nil, λ it => ⟨(λ q => by cases q), λ ⟨k, q, _⟩ => no q⟩, λ k q => no q, ⟨[], h9, List.nodup_nil, by decide, λ k q => no q, (λ kv q => by cases q)⟩, λ k q => no q, λ k q => no q, λ k q => no q, rfl, rfl, rfl, rfl, λ k q => no q, λ k q => no q, λ k q => no q, by show 7 < 12; decide, by show 5 < 12; decide, by show 9 < 12; decide, λ k q => no q, λ k q => no q, λ k q => no q⟩, λ a ha => ?_, by decide, by decide, by decide, by decide, by decide, by decide, by decide, by show 11 < 12; decide, h2, ⟨ks, hk, h1⟩, by decide, ⟨[], h10, ⟨List.nodup_nil, λ k b e f q => ?_, (λ kv q => by cases q), λ k q => ?_⟩⟩, h11, Nat.le_refl _, by decide⟩
 ·have : a = 8 := by simpa [T.ids, T.nodes, g0] using ha
  rw [this]; show 8 < 12; decide
 ·have ha' : 12 <= a := ha
  show 10 <= (if a = 7 then _ else if a = 5 then _ else if a = 8 then _ else if a = 9 then _ else _ : Nat × Nat).1
  rw [if_neg (by lia), if_neg (by lia), if_neg (by lia), if_neg (by lia)]
  decide
 ·have : bX g0 k = none := if_neg (λ q => no q.1)
  rw [this] at q; exact bG q
 ·exact (ia.mp q).1
theorem CC (ks : List Int) (hk : ks.length <= 63) : ∃ fr Z', BQ [some (.scr ks), none, none, none, none, none, none, none, none, none, none, none, none, none] ⟨λ _ => .list [], 0⟩ = some ((.ret (.bool true), fr), Z') := by
 refine cj (Bk ks (by lia) none none none none none none none none none none none none) λ f0 a1 a2 a3 => ?_
 refine EG (BZ f0 [some (.scr ks), some (.ref 2), none, none, none, none, none, none, none, none, none, none, none, none]) λ f b1 b2 b3 b4 b5 b6 b7 b8 => ?_
 have s2 : dI [2, 3, 4] Eo [some (.scr ks), some (.ref 2), none, none, none, none, none, none, none, none, none, none, none, none] ⟨f0, 3⟩ = some ((.next, cM (some (.scr ks)) A0 7 none none none none none none none none none), ⟨f, 12⟩) := gz b1 rfl
 have H0 : Lw ⟨f, 12⟩ g0 .E A0 0 (bX g0) false g0.N := CO (ks := (ks.take 63).map xK) ((b2 1 (by decide)).trans a2) (by rw [List.length_map, List.length_take]; lia) ((b2 2 (by decide)).trans a3) b3 b4 b5 b6 b7 b8
 refine zy (CR (x0 := some (.scr ks)) (h := 7) H0 rfl rfl (by decide)) λ Z1 g1 t1 y5 j1 s3 H1 m1 n1 q1 => ?_
 refine EF (DW (x0 := some (.scr ks)) H1 m1 n1 (by lia) y5) λ Z2 g2 t2 j2 s4 H2 m2 n2 q2 => ?_
 refine EF (Bm (x0 := some (.scr ks)) H2 m2 n2 (by lia) y5) λ Z3 g3 t3 j3 s5 H3 m3 n3 q3 => ?_
 refine aQ (DJ (x0 := some (.scr ks)) H3 m3 (y5 := y5) (y6 := none) (y7 := none) (y8 := none) (y9 := none) (y10 := none) (y11 := none) (y12 := none) (y13 := none)) λ Z4 s6 H4 => ?_
 refine iV (AN (h := 7) (x0 := some (.scr ks)) H4 y5) λ Z5 t5 y6 s7 H5 => ?_
 refine xe (Cb (h := 7) (x0 := some (.scr ks)) (y5 := y5) (y6 := y6) H5 (by lia)) λ a s Z6 s8 H6 l1 l2 l3 l4 => ?_
 refine kz (Ch (h := 7) (x0 := some (.scr ks)) (y5 := y5) (y6 := y6) (a := a) H6 (by lia) l3 l4) λ l e Z7 s9 H7 l5 l6 => ?_
 refine jn (GD (x0 := some (.scr ks)) (y5 := y5) (y6 := y6) (a := a) (y8 := some (.int s)) (y9 := some (.int l)) (y10 := some (.int e)) (y11 := none) (y12 := none) (y13 := none) H7 m3) λ Z8 t8 s10 H8 => ?_
 refine jn (Hp (x0 := some (.scr ks)) (y5 := y5) (y6 := y6) (s := s) (l := l) (e := e) (y7 := some (.int a)) (y11 := none) (y12 := none) (y13 := none) H8 m3 l3 l5 l6) λ Z9 t9 s11 H9 => ?_
 refine zy (DI (h := 7) (x0 := some (.scr ks)) (y5 := y5) (y6 := y6) (y7 := some (.int a)) (y8 := some (.int s)) (y9 := some (.int l)) (y10 := some (.int e)) (y11 := none) (y12 := none) (y13 := none) H9) λ Z10 Z11 y6' K pr s12 s13 X z1 z2 => ?_
 refine Hj (E0 (A := A0) (h := 7) (x0 := some (.scr ks)) (y5 := y5) (y6 := y6') (a := a) (y8 := some (.int s)) (y9 := some (.int l)) (y10 := some (.int e)) X z1) λ Z12 pl pe s14 p1 p2 p3 p4 p5 p6 p7 => ?_
 have H12 : Lw Z12 g3 t9 A0 (j3 + 2 + 2) (bX g3) true g3.N := H9.quiet (by exact Nat.le_trans (by assumption) (Nat.le_of_lt (by assumption))) p5
 obtain ⟨Z13, s15⟩ := CT (x0 := some (.scr ks)) (y5 := y5) (y6 := y6') (a := a) (y8 := some (.int s)) (y9 := some (.int l)) (y10 := some (.int e)) (y11 := some (.ref pr)) H12 m3 p3 p4 (H9.fr _ p1) (H9.fr _ p2) p6 p7 (Nat.le_trans (List.length_filter_le _ _) z1) (Nat.le_trans (List.length_filter_le _ _) z1) (λ x => by
  rw [List.mem_filter, z2, Bool.and_eq_true, decide_eq_true_eq, decide_eq_true_eq]) (λ x => by
  rw [List.mem_filter, z2, Bool.and_eq_true, decide_eq_true_eq, decide_eq_true_eq])
 refine sc (cM (some (.scr ks)) A0 7 y5 y6' (some (.int a)) (some (.int s)) (some (.int l)) (some (.int e)) (some (.ref pr)) (some (.ref pl)) (some (.ref pe))) Z13 ?_
 unfold BQ
 exact aD a1 (aD s2 (aD s3 (aD s4 (aD s5 (aD s6 (aD s7 (aD s8 (aD s9 (aD s10 (aD s11 (aD s12 (aD s13 (aD s14 (bv s15))))))))))))))
end
section
open PySem PySem.W PyProof.Rows PySem.Calls
theorem A3 (P : Params) : oF (bc (Kw P) 556) zu nF = true := by rfl
theorem A2 (P : Params) (L : Addr) : (cellsFrom L (bc (Kw P) 556).names []).map (·.2) = [L + 4, L + 3, L + 2, L + 1, L] := by rfl
theorem AT (P : Params) : (bc (Kw P) 556).names.lookup ("script" : Str) = some NameKind.local := by rfl
theorem room_caller : gF 11 callerA := ⟨rfl, by show (301 : Nat) + 11 < 690; decide, by show (4 : Nat) + 8 * 11 + 100 < 9900; decide⟩
theorem law_join {prog : Program} {w : World} {mg mb : Str -> Option Value} {pp : Program} {loose : List Str} {A : Around} {s : Shared} {H : Heap} (KX : (Kw w.params).In H) (T : TopRead pp loose mg mb H) {l : Addr} {vals : List Value} {ks : List Int}
  (hL : H.IsList l vals.toArray) (hI : IntsAre vals ks) (hlen : ks.length <= 63) {nm : Str} {a : Addr} {cd : Value} {E : Value -> Shared -> Prop} {Q : Flow -> Shared -> Prop}
  (F : Fr H H.objs.size s.heap (bindL (envOfC nm (bc (Kw w.params) 556) H.objs.size a cd).kindOf [("script", .ref l)] λ _ => none))
  {o1 o2 o3 o4 o5 : Obj} (N : News H H.objs.size s.heap [(H.objs.size + 1 + 1 + 1 + 1 + 1, o5), (H.objs.size + 1 + 1 + 1 + 1, o4), (H.objs.size + 1 + 1 + 1, o3), (H.objs.size + 1 + 1, o2), (H.objs.size + 1, o1)])
  (c1 : ∃ v, o1.data = .cell v) (c2 : ∃ v, o2.data = .cell v) (c3 : ∃ v, o3.data = .cell v) (c4 : ∃ v, o4.data = .cell v) (c5 : ∃ v, o5.data = .cell v)
  (rm : gF 10 A)
  (hq : ∀ h' tk, (∀ b o, H.get? b = some o -> h'.get? b = some o) -> (∃ m, h'.Ns H.objs.size m) -> Q (.ret (.bool true)) { s with heap := h', toks := tk }) :
  wpAny (model prog w) A (execs (bw (Kw w.params) 556) (envOfC nm (bc (Kw w.params) 556) H.objs.size a cd)) Q E s := by
 let S : eP := { prog := prog, w := w, K := Kw w.params, h₀ := H, mg := mg, mb := mb, pp := pp, loose := loose, X := KX, T := T, flds := sg, cadr := oJ, inj := AI }
 have hS : aV S := ⟨rfl, rfl, rfl⟩
 obtain ⟨fr, Z', hlaw⟩ := CC ks hlen
 have hok := A3 w.params
 have hscr := AT w.params
 have hcl := A2 w.params (H.objs.size + 1)
 generalize hsc : bc (Kw w.params) 556 = scope at F hok hscr hcl |-
 simp only [oF, Bool.and_eq_true, Bool.not_eq_true', decide_eq_true_eq, List.all_eq_true, Bool.or_eq_true, beq_iff_eq] at hok
 obtain ⟨⟨⟨⟨⟨⟨hl, hg⟩, hgc⟩, hnd⟩, hco⟩, hgen⟩, hkf⟩ := hok
 have hinj : ∀ (j k : Nat) (x : Str), nF[j]? = some x -> nF[k]? = some x -> j = k := λ j k x h1 h2 => by
  have hj : j < nF.length := (List.getElem?_eq_some_iff.mp h1).1
  exact (List.getElem?_inj hj hnd).mp (h1.trans h2.symm)
 obtain ⟨ol, h1, h2, n0, h3⟩ := hL
 let W : Gh := { ad := λ _ => (0, 0), T := λ b => if b = l then some ol else none, fz := λ _ => false }
 have hT : W.T l = some ol := if_pos rfl
 have nOwn : ∀ b, ¬ qT W 0 b := λ b q => aQ q λ i hi _ => Nat.not_lt_zero _ hi
 have nAll : ∀ b, ¬ Ac W 0 b := λ b q => aQ q λ i hi _ => Nat.not_lt_zero _ hi
 have R0 : dA S W ⟨λ _ => .list [], 0⟩ s.heap := ⟨F.keep, λ i hi => absurd hi (Nat.not_lt_zero _), λ i j hi => absurd hi (Nat.not_lt_zero _), λ i hi => absurd hi (Nat.not_lt_zero _), λ i hi => absurd hi (Nat.not_lt_zero _), λ i hi => absurd hi (Nat.not_lt_zero _), λ b o e => by
  have e' : (if b = l then some ol else none) = some o := e
  by_cases q : b = l
  ·rw [if_pos q] at e'; cases ej e'
   rw [q]
   exact ⟨F.keep _ _ h1, nOwn _, trivial, .inr (.inr ⟨h2, _, _, h3⟩)⟩
  ·rw [if_neg q] at e'; exact bG e'⟩
 have hvr : VR W 0 (.scr ks) (.ref l) := .scr ks ol vals n0 l hT h2 h3 hI
 have hko : ∀ x, (envOfC nm scope H.objs.size a cd).kindOf x = scope.names.lookup x := λ x => rfl
 have ok := cellsFrom_ok scope.names (H.push { cls := .type "frame", data := .dict #[] }) (H.objs.size + 1) [] ⟨λ _ _ hm => (nomatch hm), List.Pairwise.nil⟩ (by rw [Heap.size_push]; exact Nat.le_refl _)
 rw [Heap.size_push] at ok
 have hmem : ∀ x c, (envOfC nm scope H.objs.size a cd).cells.lookup x = some c -> c = H.objs.size + 1 + 4 \/ c = H.objs.size + 1 + 3 \/ c = H.objs.size + 1 + 2 \/ c = H.objs.size + 1 + 1 \/ c = H.objs.size + 1 := λ x c h => by
  have h' : (x, c) ∈ cellsFrom (H.objs.size + 1) scope.names [] := mem_of_lookup h
  have : c ∈ (cellsFrom (H.objs.size + 1) scope.names []).map (·.2) := List.mem_map.mpr ⟨_, h', rfl⟩
  rw [hcl] at this
  simpa using this
 have hbase : ∀ b, H.objs.size <= b -> H.get? b = none := λ b hb => Heap.get?_none_of_le hb
 have F1 : lT S (envOfC nm scope H.objs.size a cd) W 0 s.heap := ⟨hkf, rfl, rfl, ⟨_, F.ns⟩, nAll _, hbase _ (Nat.le_refl _), λ x c h => ⟨by
   rcases hmem x c h with q | q | q | q | q
   ·obtain ⟨v, hv⟩ := c5; exact ⟨v, o5, by rw [q]; exact N.get (by simp), hv⟩
   ·obtain ⟨v, hv⟩ := c4; exact ⟨v, o4, by rw [q]; exact N.get (by simp), hv⟩
   ·obtain ⟨v, hv⟩ := c3; exact ⟨v, o3, by rw [q]; exact N.get (by simp), hv⟩
   ·obtain ⟨v, hv⟩ := c2; exact ⟨v, o2, by rw [q]; exact N.get (by simp), hv⟩
   ·obtain ⟨v, hv⟩ := c1; exact ⟨v, o1, by rw [q]; exact N.get (by simp), hv⟩, nAll _, hbase _ (by rcases hmem x c h with q | q | q | q | q <;> rw [q] <;> first | exact Nat.le_trans (Nat.le_add_right _ 1) (Nat.le_add_right _ _) | exact Nat.le_add_right _ 1)⟩,
  λ x y c h1 h2 => name_of_addr ok.apart (mem_of_lookup h1) (mem_of_lookup h2)⟩
 have V1 : ik (envOfC nm scope H.objs.size a cd) W 0 s.heap nF [some (.scr ks), none, none, none, none, none, none, none, none, none, none, none, none, none] := by
  intro j x pv hj hp
  have hj0 : j = 0 := by
   cases j with
   | zero => rfl
   | succ j =>
    have hp' : (List.replicate 13 (none : Option PV))[j]? = some (some pv) := hp
    rw [List.getElem?_replicate] at hp'
    by_cases q : j < 13
    ·rw [if_pos q] at hp'; exact bG (ej hp')
    ·rw [if_neg q] at hp'; exact bG hp'
  subst hj0
  cases ej hp
  cases ej hj
  refine ⟨.ref l, hvr, .inl ⟨(hko _).trans hscr, _, F.ns, ?_⟩⟩
  show (if (envOfC nm scope H.objs.size a cd).kindOf "script" = some .local then _ else _ : Str -> Option Value) "script" = _
  rw [if_pos ((hko _).trans hscr)]
  exact if_pos rfl
 have G1 : GL zu (envOfC nm scope H.objs.size a cd) := ⟨λ x hx => (hko x).trans (hg x hx), λ x hx => ⟨(hko x).trans (hgc x hx), Option.isSome_iff_exists.mp (cellsFrom_some _ _ _ (.inl (hgc x hx)))⟩⟩
 have S1 : Gp (envOfC nm scope H.objs.size a cd) nF := ⟨hinj, λ k x hk => by
  rcases hl x (List.mem_of_getElem? hk) with q | q
  ·exact .inl ((hko x).trans q)
  ·exact .inr ⟨(hko x).trans q, Option.isSome_iff_exists.mp (cellsFrom_some _ _ _ (.inl q))⟩⟩
 refine FZ hS A (envOfC nm scope H.objs.size a cd) W _ ⟨λ _ => .list [], 0⟩ s Q E (.ret (.bool true)) fr Z' rm G1 S1 R0 F1 V1 hlaw ?_
 intro W' f' h' tk R' t' F' V' fl
 have hf : f' = .ret (.bool true) := by
  cases f' with
  | ret v => cases fl; rfl
  | _ => cases fl
 rw [hf]
 exact hq h' tk R'.base F'.ns
end
end
end Mine
open PySem PySem.W PyProof.Rows
local macro_rules | `(tactic| k_qdec) => `(tactic| first | exact Mine.gl1 | exact Mine.gl2)
set_option maxRecDepth 100000 in
set_option maxHeartbeats 8000000 in
theorem PySem.Challenge.cw_np0092_01_holds : PySem.Challenge.rw_np0092_01.Holds := by
  w_on
  refine holds_law Mine.ws fun said => ?_
  refine holds_open (q := Mine.vw) (loose := []) (Xt := Mine.XtQ) (XP := XL Mine.vw []) (Yf := Mine.Hk.obs) (Ya := Mine.Hk.val) (YP := Mine.Hk.says) (N := 6842) Mine.left0 Mine.Hk.of Mine.Hk.keeps (fun s e => xl_of s (Bool.and_eq_true_iff.mp e).1) XL.keeps (by rfl) (by rfl) (by rfl) (fun s e => recFacts_of (Bool.and_eq_true_iff.mp e).2) (by rfl) said (by decide +kernel) ⟨rfl, rfl, rfl, rfl, rfl, by decide +kernel⟩ ?hw ?hc
  · w_witness2
  · k_go0
    (all_goals try k_fold)
    refine Mine.law_join (by assumption) (topRead_of (by assumption)) (by assumption) (by assumption) (by omega) (by assumption) (by assumption) ⟨_, by assumption⟩ ⟨_, by assumption⟩ ⟨_, by assumption⟩ ⟨_, by assumption⟩ ⟨_, by assumption⟩ Mine.room_caller.deeper (fun h' tk hk hm => ?_)
    obtain ⟨m, hm⟩ := hm
    refine goodW_bool ⟨hm, hk, Nat.le_refl _⟩ (by assumption) (raisesW_false ?_) ?_
    · wrow_none_raised
    · wrow_post
