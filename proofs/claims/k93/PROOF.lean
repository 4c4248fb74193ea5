import PyProof.Rows.All
import Wide.All
import OpenK.AllK
import Wide.FinOn
import HandS.ForMost
import HandS.ForExc
import HandS.Walk
import HandS.Zip
import HandS.TupAny
import HandS.TupMul
import HandS.Text
import HandS.IsInst
import HandS.RaiseMore
import KE.KExcIs
import HandS.Small
import HandS.BoundDict
import HandS.WordsDict
import HandS.ExcIs
import HandS.ExcValue
import HandS.WordsExc
import HandS.Ends
import HandS.ExcInit
import HandS.ExcField
import PySem.Challenge.RW_standhouse_k93_refusals_made
set_option Elab.async false
set_option linter.all false
set_option autoImplicit false
set_option maxRecDepth 100000
set_option maxHeartbeats 4000000
/-! V1: data values, what stands for them in the abstract heap, states and steps -/
namespace VI
open PySem PySem.Spec L2

/-- a data value; the Bool of a list, a dict, an instance: it has one owner and may be changed -/
inductive D where
  | non | bl (b : Bool) | int (i : Int) | str (x : Str)
  | tup (xs : List D)
  | lst (o : Bool) (xs : List D)
  | dct (o : Bool) (kvs : List (D × D))
  | ins (o : Bool) (c : Str) (fs : List (Str × D))
  | exc (c : Str) (fs : List (Str × D))

mutual
/-- something in it may be changed -/
def D.own : D → Bool
  | .tup xs => D.owns xs
  | .lst o xs => o || D.owns xs
  | .dct o kvs => o || D.ownk kvs
  | .ins o _ fs => o || D.ownf fs
  | .exc _ fs => D.ownf fs
  | _ => false
def D.owns : List D → Bool
  | [] => false
  | x :: xs => x.own || D.owns xs
def D.ownk : List (D × D) → Bool
  | [] => false
  | (_, x) :: xs => x.own || D.ownk xs
def D.ownf : List (Str × D) → Bool
  | [] => false
  | (_, x) :: xs => x.own || D.ownf xs
end
mutual
/-- it is never changed from here on -/
def D.frz : D → D
  | .tup xs => .tup (D.frzs xs)
  | .lst _ xs => .lst false (D.frzs xs)
  | .dct _ kvs => .dct false (D.frzk kvs)
  | .ins _ c fs => .ins false c (D.frzf fs)
  | .exc c fs => .exc c (D.frzf fs)
  | x => x
def D.frzs : List D → List D
  | [] => []
  | x :: xs => x.frz :: D.frzs xs
def D.frzk : List (D × D) → List (D × D)
  | [] => []
  | (k, x) :: xs => (k, x.frz) :: D.frzk xs
def D.frzf : List (Str × D) → List (Str × D)
  | [] => []
  | (k, x) :: xs => (k, x.frz) :: D.frzf xs
end
mutual
theorem D.frz_of : ∀ d : D, d.own = false → d.frz = d
  | .non, _ | .bl _, _ | .int _, _ | .str _, _ => rfl
  | .exc c fs, h => by rw [D.frz, D.frzf_of fs (by simpa [D.own] using h)]
  | .tup xs, h => by rw [D.frz, D.frzs_of xs (by simpa [D.own] using h)]
  | .lst o xs, h => by
    simp only [D.own, Bool.or_eq_false_iff] at h
    rw [D.frz, D.frzs_of xs h.2, h.1]
  | .dct o xs, h => by
    simp only [D.own, Bool.or_eq_false_iff] at h
    rw [D.frz, D.frzk_of xs h.2, h.1]
  | .ins o c xs, h => by
    simp only [D.own, Bool.or_eq_false_iff] at h
    rw [D.frz, D.frzf_of xs h.2, h.1]
theorem D.frzs_of : ∀ xs : List D, D.owns xs = false → D.frzs xs = xs
  | [], _ => rfl
  | x :: xs, h => by
    simp only [D.owns, Bool.or_eq_false_iff] at h
    rw [D.frzs, D.frz_of x h.1, D.frzs_of xs h.2]
theorem D.frzk_of : ∀ xs : List (D × D), D.ownk xs = false → D.frzk xs = xs
  | [], _ => rfl
  | (k, x) :: xs, h => by
    simp only [D.ownk, Bool.or_eq_false_iff] at h
    rw [D.frzk, D.frz_of x h.1, D.frzk_of xs h.2]
theorem D.frzf_of : ∀ xs : List (Str × D), D.ownf xs = false → D.frzf xs = xs
  | [], _ => rfl
  | (k, x) :: xs, h => by
    simp only [D.ownf, Bool.or_eq_false_iff] at h
    rw [D.frzf, D.frz_of x h.1, D.frzf_of xs h.2]
end
mutual
theorem D.own_frz : ∀ d : D, d.frz.own = false
  | .non | .bl _ | .int _ | .str _ => rfl
  | .exc c fs => by simpa [D.frz, D.own] using D.ownf_frzf fs
  | .tup xs => by simpa [D.frz, D.own] using D.owns_frzs xs
  | .lst o xs => by simpa [D.frz, D.own] using D.owns_frzs xs
  | .dct o xs => by simpa [D.frz, D.own] using D.ownk_frzk xs
  | .ins o c xs => by simpa [D.frz, D.own] using D.ownf_frzf xs
theorem D.owns_frzs : ∀ xs : List D, D.owns (D.frzs xs) = false
  | [] => rfl
  | x :: xs => by simp [D.frzs, D.owns, D.own_frz x, D.owns_frzs xs]
theorem D.ownk_frzk : ∀ xs : List (D × D), D.ownk (D.frzk xs) = false
  | [] => rfl
  | (k, x) :: xs => by simp [D.frzk, D.ownk, D.own_frz x, D.ownk_frzk xs]
theorem D.ownf_frzf : ∀ xs : List (Str × D), D.ownf (D.frzf xs) = false
  | [] => rfl
  | (k, x) :: xs => by simp [D.frzf, D.ownf, D.own_frz x, D.ownf_frzf xs]
end

/-- a dict's key: an int or a text -/
def keyD : D → Option Key
  | .int i => some (.inl i)
  | .str x => some (.inr x)
  | _ => none
def keysD : List (D × D) → Option (List Key)
  | [] => some []
  | (k, _) :: r => match keyD k, keysD r with
    | some a, some b => some (a :: b)
    | _, _ => none

/-! ### what stands for a value -/
abbrev Mg := Str → Option Value
/-- a tuple, a list that isn't changed: tracked (Z) or of the module -/
def TupAt (K : PySem.W.Frag) (Z : Addr → Prop) (H : Hp) (a : Addr) (vs : List V) : Prop :=
  (Z a ∧ Rd H a (.tup vs)) ∨ ∃ (o : Obj) (its : Array Value) (n : Nat), K.lookup a = some o ∧ o.cls = .type "tuple" ∧ o.data = .seq its n ∧ its.size ≤ sizeLine ∧ Vals vs its.toList
def LstAt (K : PySem.W.Frag) (Z : Addr → Prop) (H : Hp) (a : Addr) (vs : List V) : Prop :=
  (Z a ∧ Rd H a (.lst vs)) ∨ ∃ (o : Obj) (its : Array Value) (n : Nat), K.lookup a = some o ∧ o.cls = .type "list" ∧ o.dict = none ∧ o.data = .seq its n ∧ its.size ≤ sizeLine ∧ Vals vs its.toList
/-- a caught exception -/
def ExO (cls : Value) (d : Option Addr) (a : Addr) : HO := .ext fun h => ∃ (oe : Obj) (vs : Array Value), h.get? a = some oe ∧ Zc cls d oe ∧ oe.data = .fields vs

section
variable (K : PySem.W.Frag) (mg : Mg) (Z : Addr → Prop) (H : Hp)
mutual
/-- v is d in the heap H; F: the addresses of all that may be changed in it -/
def Rep : D → V → List Addr → Prop
  | .non, v, F => v = .non ∧ F = []
  | .bl b, v, F => v = .bl b ∧ F = []
  | .int i, v, F => v = .int i ∧ F = []
  | .str x, v, F => v = .str x ∧ F = []
  | .tup xs, v, F => ∃ a vs, v = .ref a ∧ TupAt K Z H a vs ∧ Reps xs vs F
  | .lst true xs, v, F => ∃ a vs G, v = .ref a ∧ H a = some (.lst vs) ∧ Reps xs vs G ∧ F = a :: G
  | .lst false xs, v, F => ∃ a vs, v = .ref a ∧ LstAt K Z H a vs ∧ Reps xs vs [] ∧ F = []
  | .dct true kvs, v, F => ∃ a ks vs G, v = .ref a ∧ H a = some (.dK (ks.zip vs)) ∧ (keysD kvs = some ks ∧ ks.Nodup) ∧ Repk kvs vs G ∧ F = a :: G
  | .dct false kvs, v, F => ∃ a ks vs, v = .ref a ∧ H a = some (.dK (ks.zip vs)) ∧ Z a ∧ (keysD kvs = some ks ∧ ks.Nodup) ∧ Repk kvs vs [] ∧ F = []
  | .ins true c fs, v, F => ∃ a C dx vs G, v = .ref a ∧ mg c = some (.ref C) ∧ H a = some (.ins C dx ((fs.map (·.1)).zip vs)) ∧ H dx = some (.own a) ∧ Repf fs vs G ∧ F = a :: dx :: G
  | .ins false c fs, v, F => ∃ a C dx vs, v = .ref a ∧ mg c = some (.ref C) ∧ H a = some (.ins C dx ((fs.map (·.1)).zip vs)) ∧ H dx = some (.own a) ∧ Z a ∧ Z dx ∧ Repf fs vs [] ∧ F = []
  | .exc c fs, v, F => ∃ a C dd vs, v = .ref a ∧ mg c = some (.ref C) ∧ H a = some (ExO (.ref C) dd a) ∧ Z a ∧ F = [] ∧ Repf fs vs [] ∧ ((fs = [] ∧ dd = none) ∨ ∃ d, dd = some d ∧ H d = some (.xd ((fs.map (·.1)).zip vs)) ∧ Z d)
def Reps : List D → List V → List Addr → Prop
  | [], vs, F => vs = [] ∧ F = []
  | x :: xs, vs, F => ∃ v r F1 F2, vs = v :: r ∧ Rep x v F1 ∧ Reps xs r F2 ∧ F = F1 ++ F2
def Repk : List (D × D) → List V → List Addr → Prop
  | [], vs, F => vs = [] ∧ F = []
  | (_, x) :: xs, vs, F => ∃ v r F1 F2, vs = v :: r ∧ Rep x v F1 ∧ Repk xs r F2 ∧ F = F1 ++ F2
def Repf : List (Str × D) → List V → List Addr → Prop
  | [], vs, F => vs = [] ∧ F = []
  | (_, x) :: xs, vs, F => ∃ v r F1 F2, vs = v :: r ∧ Rep x v F1 ∧ Repf xs r F2 ∧ F = F1 ++ F2
end
end

section
variable {K : PySem.W.Frag} {mg : Mg} {Z Z' : Addr → Prop} {H H' : Hp}
theorem TupAt.sq {a : Addr} {vs : List V} (h : TupAt K Z H a vs) : SqT K H a vs := h.elim (fun x => .inl x.2) .inr
theorem LstAt.sq {a : Addr} {vs : List V} (h : LstAt K Z H a vs) : SqL K H a vs := h.elim (fun x => .inl x.2) .inr
theorem rd_at {a : Addr} {u : HO} (h : Rd H a u) (e : H' a = H a) : Rd H' a u := by
  rcases h with h | ⟨o, h⟩
  · exact .inl (e.trans h)
  · exact .inr ⟨o, e.trans h⟩
/-- what is never changed stays -/
structure Stay (Z Z' : Addr → Prop) (H H' : Hp) : Prop where
  z : ∀ a, Z a → Z' a
  h : ∀ a, Z a → H' a = H a
theorem Stay.refl : Stay Z Z H H := ⟨fun _ h => h, fun _ _ => rfl⟩
theorem Stay.trans {Z2 : Addr → Prop} {H2 : Hp} (a : Stay Z Z' H H') (b : Stay Z' Z2 H' H2) : Stay Z Z2 H H2 := ⟨fun x h => b.z x (a.z x h), fun x h => (b.h x (a.z x h)).trans (a.h x h)⟩
theorem TupAt.stay {a : Addr} {vs : List V} (h : TupAt K Z H a vs) (s : Stay Z Z' H H') : TupAt K Z' H' a vs := h.elim (fun x => .inl ⟨s.z a x.1, rd_at x.2 (s.h a x.1)⟩) .inr
theorem LstAt.stay {a : Addr} {vs : List V} (h : LstAt K Z H a vs) (s : Stay Z Z' H H') : LstAt K Z' H' a vs := h.elim (fun x => .inl ⟨s.z a x.1, rd_at x.2 (s.h a x.1)⟩) .inr
mutual
/-- a value stays where its own things stay -/
theorem Rep.stay (s : Stay Z Z' H H') : ∀ {d : D} {v : V} {F : List Addr}, Rep K mg Z H d v F → (∀ a ∈ F, H' a = H a) → Rep K mg Z' H' d v F
  | .non, _, _, h, _ | .bl _, _, _, h, _ | .int _, _, _, h, _ | .str _, _, _, h, _ => by simpa only [Rep] using h
  | .tup xs, v, F, h, k => by
    simp only [Rep] at h ⊢
    obtain ⟨a, vs, e, t, r⟩ := h
    exact ⟨a, vs, e, t.stay s, Reps.stay s r k⟩
  | .lst true xs, v, F, h, k => by
    simp only [Rep] at h ⊢
    obtain ⟨a, vs, G, e, t, r, f⟩ := h
    subst f
    exact ⟨a, vs, G, e, (k a (by simp)).trans t, Reps.stay s r fun b hb => k b (by simp [hb]), rfl⟩
  | .lst false xs, v, F, h, k => by
    simp only [Rep] at h ⊢
    obtain ⟨a, vs, e, t, r, f⟩ := h
    exact ⟨a, vs, e, t.stay s, Reps.stay s r fun b hb => by simp at hb, f⟩
  | .dct true xs, v, F, h, k => by
    simp only [Rep] at h ⊢
    obtain ⟨a, ks, vs, G, e, t, q, r, f⟩ := h
    subst f
    exact ⟨a, ks, vs, G, e, (k a (by simp)).trans t, q, Repk.stay s r fun b hb => k b (by simp [hb]), rfl⟩
  | .dct false xs, v, F, h, k => by
    simp only [Rep] at h ⊢
    obtain ⟨a, ks, vs, e, t, z, q, r, f⟩ := h
    exact ⟨a, ks, vs, e, (s.h a z).trans t, s.z a z, q, Repk.stay s r fun b hb => by simp at hb, f⟩
  | .ins true c xs, v, F, h, k => by
    simp only [Rep] at h ⊢
    obtain ⟨a, C, dx, vs, G, e, m, t, w, r, f⟩ := h
    subst f
    exact ⟨a, C, dx, vs, G, e, m, (k a (by simp)).trans t, (k dx (by simp)).trans w, Repf.stay s r fun b hb => k b (by simp [hb]), rfl⟩
  | .ins false c xs, v, F, h, k => by
    simp only [Rep] at h ⊢
    obtain ⟨a, C, dx, vs, e, m, t, w, z1, z2, r, f⟩ := h
    exact ⟨a, C, dx, vs, e, m, (s.h a z1).trans t, (s.h dx z2).trans w, s.z a z1, s.z dx z2, Repf.stay s r fun b hb => by simp at hb, f⟩
  | .exc c fs, v, F, h, k => by
    simp only [Rep] at h ⊢
    obtain ⟨a, C, dd, vs, e, m, t, z, f, r, y⟩ := h
    exact ⟨a, C, dd, vs, e, m, (s.h a z).trans t, s.z a z, f, Repf.stay s r fun b hb => by simp at hb, y.elim .inl fun ⟨d, y1, y2, y3⟩ => .inr ⟨d, y1, (s.h d y3).trans y2, s.z d y3⟩⟩
theorem Reps.stay (s : Stay Z Z' H H') : ∀ {xs : List D} {vs : List V} {F : List Addr}, Reps K mg Z H xs vs F → (∀ a ∈ F, H' a = H a) → Reps K mg Z' H' xs vs F
  | [], _, _, h, _ => by simpa only [Reps] using h
  | x :: xs, vs, F, h, k => by
    simp only [Reps] at h ⊢
    obtain ⟨v, r, F1, F2, e, a, b, f⟩ := h
    subst f
    exact ⟨v, r, F1, F2, e, Rep.stay s a fun c hc => k c (by simp [hc]), Reps.stay s b fun c hc => k c (by simp [hc]), rfl⟩
theorem Repk.stay (s : Stay Z Z' H H') : ∀ {xs : List (D × D)} {vs : List V} {F : List Addr}, Repk K mg Z H xs vs F → (∀ a ∈ F, H' a = H a) → Repk K mg Z' H' xs vs F
  | [], _, _, h, _ => by simpa only [Repk] using h
  | (_, x) :: xs, vs, F, h, k => by
    simp only [Repk] at h ⊢
    obtain ⟨v, r, F1, F2, e, a, b, f⟩ := h
    subst f
    exact ⟨v, r, F1, F2, e, Rep.stay s a fun c hc => k c (by simp [hc]), Repk.stay s b fun c hc => k c (by simp [hc]), rfl⟩
theorem Repf.stay (s : Stay Z Z' H H') : ∀ {xs : List (Str × D)} {vs : List V} {F : List Addr}, Repf K mg Z H xs vs F → (∀ a ∈ F, H' a = H a) → Repf K mg Z' H' xs vs F
  | [], _, _, h, _ => by simpa only [Repf] using h
  | (_, x) :: xs, vs, F, h, k => by
    simp only [Repf] at h ⊢
    obtain ⟨v, r, F1, F2, e, a, b, f⟩ := h
    subst f
    exact ⟨v, r, F1, F2, e, Rep.stay s a fun c hc => k c (by simp [hc]), Repf.stay s b fun c hc => k c (by simp [hc]), rfl⟩
end
mutual
theorem keysD_frz : ∀ xs : List (D × D), keysD (D.frzk xs) = keysD xs
  | [] => rfl
  | (k, x) :: xs => by simp only [D.frzk, keysD, keysD_frz xs]
theorem names_frz : ∀ xs : List (Str × D), (D.frzf xs).map (·.1) = xs.map (·.1)
  | [] => rfl
  | (k, x) :: xs => by simp only [D.frzf, List.map_cons, names_frz xs]
end
mutual
/-- a value whose own things are no longer changed -/
theorem Rep.frz (s : ∀ a, Z a → Z' a) : ∀ {d : D} {v : V} {F : List Addr}, Rep K mg Z H d v F → (∀ a ∈ F, Z' a) → Rep K mg Z' H d.frz v []
  | .non, _, _, h, _ | .bl _, _, _, h, _ | .int _, _, _, h, _ | .str _, _, _, h, _ => by
    simp only [Rep, D.frz] at h ⊢
    exact ⟨h.1, by simp⟩
  | .tup xs, v, F, h, k => by
    simp only [Rep, D.frz] at h ⊢
    obtain ⟨a, vs, e, t, r⟩ := h
    exact ⟨a, vs, e, t.stay ⟨s, fun _ _ => rfl⟩, Reps.frz s r k⟩
  | .lst true xs, v, F, h, k => by
    simp only [Rep, D.frz] at h ⊢
    obtain ⟨a, vs, G, e, t, r, f⟩ := h
    subst f
    exact ⟨a, vs, e, .inl ⟨k a (by simp), .inl t⟩, Reps.frz s r fun b hb => k b (by simp [hb]), by simp⟩
  | .lst false xs, v, F, h, k => by
    simp only [Rep, D.frz] at h ⊢
    obtain ⟨a, vs, e, t, r, f⟩ := h
    exact ⟨a, vs, e, t.stay ⟨s, fun _ _ => rfl⟩, Reps.frz s r fun b hb => by simp at hb, by simp⟩
  | .dct true xs, v, F, h, k => by
    simp only [Rep, D.frz] at h ⊢
    obtain ⟨a, ks, vs, G, e, t, q, r, f⟩ := h
    subst f
    exact ⟨a, ks, vs, e, t, k a (by simp), by rw [keysD_frz]; exact q, Repk.frz s r fun b hb => k b (by simp [hb]), by simp⟩
  | .dct false xs, v, F, h, k => by
    simp only [Rep, D.frz] at h ⊢
    obtain ⟨a, ks, vs, e, t, z, q, r, f⟩ := h
    exact ⟨a, ks, vs, e, t, s a z, by rw [keysD_frz]; exact q, Repk.frz s r fun b hb => by simp at hb, by simp⟩
  | .ins true c xs, v, F, h, k => by
    simp only [Rep, D.frz] at h ⊢
    obtain ⟨a, C, dx, vs, G, e, m, t, w, r, f⟩ := h
    subst f
    exact ⟨a, C, dx, vs, e, m, by rw [names_frz]; exact t, w, k a (by simp), k dx (by simp), Repf.frz s r fun b hb => k b (by simp [hb]), by simp⟩
  | .ins false c xs, v, F, h, k => by
    simp only [Rep, D.frz] at h ⊢
    obtain ⟨a, C, dx, vs, e, m, t, w, z1, z2, r, f⟩ := h
    exact ⟨a, C, dx, vs, e, m, by rw [names_frz]; exact t, w, s a z1, s dx z2, Repf.frz s r fun b hb => by simp at hb, by simp⟩
  | .exc c fs, v, F, h, k => by
    simp only [Rep, D.frz] at h ⊢
    obtain ⟨a, C, dd, vs, e, m, t, z, f, r, y⟩ := h
    exact ⟨a, C, dd, vs, e, m, t, s a z, by simp, Repf.frz s r fun b hb => by simp at hb, y.elim (fun y => .inl ⟨by rw [y.1]; rfl, y.2⟩) fun ⟨d, y1, y2, y3⟩ => .inr ⟨d, y1, by rw [names_frz]; exact y2, s d y3⟩⟩
theorem Reps.frz (s : ∀ a, Z a → Z' a) : ∀ {xs : List D} {vs : List V} {F : List Addr}, Reps K mg Z H xs vs F → (∀ a ∈ F, Z' a) → Reps K mg Z' H (D.frzs xs) vs []
  | [], _, _, h, _ => by
    simp only [Reps, D.frzs] at h ⊢
    exact ⟨h.1, by simp⟩
  | x :: xs, vs, F, h, k => by
    simp only [Reps, D.frzs] at h ⊢
    obtain ⟨v, r, F1, F2, e, a, b, f⟩ := h
    subst f
    exact ⟨v, r, [], [], e, Rep.frz s a fun c hc => k c (by simp [hc]), Reps.frz s b fun c hc => k c (by simp [hc]), by simp⟩
theorem Repk.frz (s : ∀ a, Z a → Z' a) : ∀ {xs : List (D × D)} {vs : List V} {F : List Addr}, Repk K mg Z H xs vs F → (∀ a ∈ F, Z' a) → Repk K mg Z' H (D.frzk xs) vs []
  | [], _, _, h, _ => by
    simp only [Repk, D.frzk] at h ⊢
    exact ⟨h.1, by simp⟩
  | (_, x) :: xs, vs, F, h, k => by
    simp only [Repk, D.frzk] at h ⊢
    obtain ⟨v, r, F1, F2, e, a, b, f⟩ := h
    subst f
    exact ⟨v, r, [], [], e, Rep.frz s a fun c hc => k c (by simp [hc]), Repk.frz s b fun c hc => k c (by simp [hc]), by simp⟩
theorem Repf.frz (s : ∀ a, Z a → Z' a) : ∀ {xs : List (Str × D)} {vs : List V} {F : List Addr}, Repf K mg Z H xs vs F → (∀ a ∈ F, Z' a) → Repf K mg Z' H (D.frzf xs) vs []
  | [], _, _, h, _ => by
    simp only [Repf, D.frzf] at h ⊢
    exact ⟨h.1, by simp⟩
  | (_, x) :: xs, vs, F, h, k => by
    simp only [Repf, D.frzf] at h ⊢
    obtain ⟨v, r, F1, F2, e, a, b, f⟩ := h
    subst f
    exact ⟨v, r, [], [], e, Rep.frz s a fun c hc => k c (by simp [hc]), Repf.frz s b fun c hc => k c (by simp [hc]), by simp⟩
end
mutual
theorem Rep.unown : ∀ {d : D} {v : V} {F : List Addr}, Rep K mg Z H d v F → d.own = false → F = []
  | .non, _, _, h, _ | .bl _, _, _, h, _ | .int _, _, _, h, _ | .str _, _, _, h, _ => by
    simp only [Rep] at h
    exact h.2
  | .tup xs, v, F, h, k => by
    simp only [Rep] at h
    obtain ⟨a, vs, e, t, r⟩ := h
    exact Reps.unown r (by simpa [D.own] using k)
  | .lst true xs, v, F, h, k => by simp [D.own] at k
  | .lst false xs, v, F, h, k => by
    simp only [Rep] at h
    obtain ⟨a, vs, e, t, r, f⟩ := h
    exact f
  | .dct true xs, v, F, h, k => by simp [D.own] at k
  | .dct false xs, v, F, h, k => by
    simp only [Rep] at h
    obtain ⟨a, ks, vs, e, t, z, q, r, f⟩ := h
    exact f
  | .ins true c xs, v, F, h, k => by simp [D.own] at k
  | .ins false c xs, v, F, h, k => by
    simp only [Rep] at h
    obtain ⟨a, C, dx, vs, e, m, t, w, z1, z2, r, f⟩ := h
    exact f
  | .exc c fs, v, F, h, k => by
    simp only [Rep] at h
    obtain ⟨a, C, dd, vs, e, m, t, z, f, _⟩ := h
    exact f
theorem Reps.unown : ∀ {xs : List D} {vs : List V} {F : List Addr}, Reps K mg Z H xs vs F → D.owns xs = false → F = []
  | [], _, _, h, _ => by
    simp only [Reps] at h
    exact h.2
  | x :: xs, vs, F, h, k => by
    simp only [Reps] at h
    obtain ⟨v, r, F1, F2, e, a, b, f⟩ := h
    simp only [D.owns, Bool.or_eq_false_iff] at k
    rw [f, Rep.unown a k.1, Reps.unown b k.2, List.append_nil]
end
theorem Reps.length : ∀ {xs : List D} {vs : List V} {F : List Addr}, Reps K mg Z H xs vs F → vs.length = xs.length
  | [], _, _, h => by
    simp only [Reps] at h
    rw [h.1] <;> rfl
  | x :: xs, vs, F, h => by
    simp only [Reps] at h
    obtain ⟨v, r, F1, F2, e, a, b, f⟩ := h
    rw [e, List.length_cons, List.length_cons, Reps.length b]
theorem Reps.get : ∀ {xs : List D} {vs : List V} {F : List Addr} {i : Nat} {x : D}, Reps K mg Z H xs vs F → xs[i]? = some x → ∃ v G, vs[i]? = some v ∧ Rep K mg Z H x v G ∧ (∀ a ∈ G, a ∈ F) ∧ (F.Nodup → G.Nodup)
  | [], _, _, _, _, _, e => by simp at e
  | y :: xs, vs, F, 0, x, h, e => by
    simp only [Reps] at h
    obtain ⟨v, r, F1, F2, e1, a, b, f⟩ := h
    simp only [List.getElem?_cons_zero, Option.some.injEq] at e
    subst e e1 f
    exact ⟨v, F1, rfl, a, fun c hc => by simp [hc], fun n => (List.nodup_append.mp n).1⟩
  | y :: xs, vs, F, i + 1, x, h, e => by
    simp only [Reps] at h
    obtain ⟨v, r, F1, F2, e1, a, b, f⟩ := h
    subst e1 f
    obtain ⟨w, G, g1, g2, g3, g4⟩ := Reps.get (i := i) (x := x) b (by simpa using e)
    exact ⟨w, G, by simpa using g1, g2, fun c hc => by simp [g3 c hc], fun n => g4 (List.nodup_append.mp n).2.1⟩
/-- a list all of which is never changed -/
theorem Reps.app : ∀ {xs ys : List D} {vs us : List V} {F G : List Addr}, Reps K mg Z H xs vs F → Reps K mg Z H ys us G → Reps K mg Z H (xs ++ ys) (vs ++ us) (F ++ G)
  | [], _, _, _, _, _, h, q => by
    simp only [Reps] at h
    rw [h.1, h.2]
    exact q
  | x :: xs, ys, vs, us, F, G, h, q => by
    simp only [Reps] at h
    obtain ⟨v, r, F1, F2, e, a, b, f⟩ := h
    subst e f
    simp only [List.cons_append, Reps]
    exact ⟨v, r ++ us, F1, F2 ++ G, rfl, a, Reps.app b q, by rw [List.append_assoc]⟩
theorem Reps.nil : Reps K mg Z H [] [] [] := by simp only [Reps]; exact ⟨trivial, trivial⟩
theorem Reps.cons {x : D} {v : V} {F G : List Addr} {xs : List D} {vs : List V} (a : Rep K mg Z H x v F) (b : Reps K mg Z H xs vs G) : Reps K mg Z H (x :: xs) (v :: vs) (F ++ G) := by
  simp only [Reps]
  exact ⟨v, vs, F, G, rfl, a, b, rfl⟩
theorem Reps.one {x : D} {v : V} {F : List Addr} (a : Rep K mg Z H x v F) : Reps K mg Z H [x] [v] F := by
  have := Reps.cons a Reps.nil
  rwa [List.append_nil] at this
end
end VI
/-! V2: states, steps, what an expression tells -/
namespace VI
open PySem PySem.Spec L2

/-- the names' values by slot; p: handed in by one that has them still -/
structure Env where
  s : List (Option D)
  p : List Bool
inductive Out (α : Type) where
  | ok (a : α) (e : Env)
  | exc (c : Str) (fs : List (Str × D)) (e : Env)
  | err
abbrev M (α : Type) := Env → Out α
def bnd {α β : Type} (f : M α) (g : α → M β) : M β := fun e => match f e with
  | .ok a e' => g a e'
  | .exc c fs e' => .exc c fs e'
  | .err => .err
def pur {α : Type} (a : α) : M α := fun e => .ok a e
def bad {α : Type} : M α := fun _ => .err
@[simp] theorem bnd_ok {α β : Type} {f : M α} {g : α → M β} {e e' : Env} {a : α} (h : f e = .ok a e') : bnd f g e = g a e' := by simp [bnd, h]

section
variable {K : PySem.W.Frag} {mg : Mg} {Z Z' Z1 Z2 : Addr → Prop} {H H' H1 H2 : Hp} {σ : St} {env env' env1 env2 : Env} {Fs Fs' Fs1 Fs2 : Nat → List Addr} {T T' T1 T2 : Nat → Bool}

mutual
theorem Rep.there : ∀ {d : D} {v : V} {F : List Addr}, Rep K mg Z H d v F → ∀ a ∈ F, ∃ o, H a = some o
  | .non, _, _, h | .bl _, _, _, h | .int _, _, _, h | .str _, _, _, h => by
    simp only [Rep] at h
    simp [h.2]
  | .tup xs, v, F, h => by
    simp only [Rep] at h
    obtain ⟨a, vs, e, t, r⟩ := h
    exact Reps.there r
  | .lst true xs, v, F, h => by
    simp only [Rep] at h
    obtain ⟨a, vs, G, e, t, r, f⟩ := h
    subst f
    intro b hb
    rcases List.mem_cons.mp hb with rfl | hb
    · exact ⟨_, t⟩
    · exact Reps.there r b hb
  | .lst false xs, v, F, h => by
    simp only [Rep] at h
    obtain ⟨a, vs, e, t, r, f⟩ := h
    simp [f]
  | .dct true xs, v, F, h => by
    simp only [Rep] at h
    obtain ⟨a, ks, vs, G, e, t, q, r, f⟩ := h
    subst f
    intro b hb
    rcases List.mem_cons.mp hb with rfl | hb
    · exact ⟨_, t⟩
    · exact Repk.there r b hb
  | .dct false xs, v, F, h => by
    simp only [Rep] at h
    obtain ⟨a, ks, vs, e, t, z, q, r, f⟩ := h
    simp [f]
  | .ins true c xs, v, F, h => by
    simp only [Rep] at h
    obtain ⟨a, C, dx, vs, G, e, m, t, w, r, f⟩ := h
    subst f
    intro b hb
    rcases List.mem_cons.mp hb with rfl | hb
    · exact ⟨_, t⟩
    · rcases List.mem_cons.mp hb with rfl | hb
      · exact ⟨_, w⟩
      · exact Repf.there r b hb
  | .ins false c xs, v, F, h => by
    simp only [Rep] at h
    obtain ⟨a, C, dx, vs, e, m, t, w, z1, z2, r, f⟩ := h
    simp [f]
  | .exc c fs, v, F, h => by
    simp only [Rep] at h
    obtain ⟨a, C, dd, vs, e, m, t, z, f, _⟩ := h
    simp [f]
theorem Reps.there : ∀ {xs : List D} {vs : List V} {F : List Addr}, Reps K mg Z H xs vs F → ∀ a ∈ F, ∃ o, H a = some o
  | [], _, _, h => by
    simp only [Reps] at h
    simp [h.2]
  | x :: xs, vs, F, h => by
    simp only [Reps] at h
    obtain ⟨v, r, F1, F2, e, a, b, f⟩ := h
    subst f
    intro c hc
    exact (List.mem_append.mp hc).elim (Rep.there a c) (Reps.there b c)
theorem Repk.there : ∀ {xs : List (D × D)} {vs : List V} {F : List Addr}, Repk K mg Z H xs vs F → ∀ a ∈ F, ∃ o, H a = some o
  | [], _, _, h => by
    simp only [Repk] at h
    simp [h.2]
  | (_, x) :: xs, vs, F, h => by
    simp only [Repk] at h
    obtain ⟨v, r, F1, F2, e, a, b, f⟩ := h
    subst f
    intro c hc
    exact (List.mem_append.mp hc).elim (Rep.there a c) (Repk.there b c)
theorem Repf.there : ∀ {xs : List (Str × D)} {vs : List V} {F : List Addr}, Repf K mg Z H xs vs F → ∀ a ∈ F, ∃ o, H a = some o
  | [], _, _, h => by
    simp only [Repf] at h
    simp [h.2]
  | (_, x) :: xs, vs, F, h => by
    simp only [Repf] at h
    obtain ⟨v, r, F1, F2, e, a, b, f⟩ := h
    subst f
    intro c hc
    exact (List.mem_append.mp hc).elim (Rep.there a c) (Repf.there b c)
end

/-- the state: each name's value, its own things apart from all others' -/
structure SR (K : PySem.W.Frag) (mg : Mg) (Z : Addr → Prop) (H : Hp) (σ : St) (env : Env) (Fs : Nat → List Addr) : Prop where
  len : env.s.length = σ.length
  rep : ∀ (i : Nat) d, env.s[i]? = some (some d) → ∃ v, σ[i]? = some (some v) ∧ Rep K mg Z H d v (Fs i)
  no : ∀ i, (∀ d, env.s[i]? ≠ some (some d)) → Fs i = []
  nd : ∀ i, (Fs i).Nodup
  dj : ∀ i j, i ≠ j → ∀ a ∈ Fs i, a ∉ Fs j
  zf : ∀ i, ∀ a ∈ Fs i, ¬ Z a
  zs : ∀ a, Z a → ∃ o, H a = some o
theorem SR.tr (S : SR K mg Z H σ env Fs) {i : Nat} {a : Addr} (h : a ∈ Fs i) : ∃ o, H a = some o := by
  by_cases q : ∃ d, env.s[i]? = some (some d)
  · obtain ⟨d, q⟩ := q
    obtain ⟨v, _, r⟩ := S.rep i d q
    exact r.there a h
  · rw [S.no i fun d z => q ⟨d, z⟩] at h
    cases h
/-- a step; T: the slots that it may touch -/
structure Tr (T : Nat → Bool) (Z : Addr → Prop) (H : Hp) (env : Env) (Fs : Nat → List Addr) (Z' : Addr → Prop) (H' : Hp) (env' : Env) (Fs' : Nat → List Addr) : Prop where
  z : ∀ a, Z a → Z' a
  zn : ∀ a, Z' a → Z a ∨ (∃ j, a ∈ Fs j) ∨ H a = none
  keep : ∀ a o, H a = some o → (∀ i, a ∉ Fs i) → H' a = some o
  gr : ∀ a, H' a = none → H a = none
  new : ∀ i, ∀ a ∈ Fs' i, (∃ j, a ∈ Fs j) ∨ H a = none
  un : ∀ i, T i = false → env'.s[i]? = env.s[i]? ∧ Fs' i = Fs i ∧ ∀ a ∈ Fs i, H' a = H a
  p : env'.p = env.p
abbrev T0 : Nat → Bool := fun _ => false
abbrev tor (S T : Nat → Bool) : Nat → Bool := fun i => S i || T i
theorem Tr.refl : Tr T Z H env Fs Z H env Fs := ⟨fun _ h => h, fun _ h => .inl h, fun _ _ h _ => h, fun _ h => h, fun i a h => .inl ⟨i, h⟩, fun _ _ => ⟨rfl, rfl, fun _ _ => rfl⟩, rfl⟩
theorem Tr.trans (a : Tr T1 Z H env Fs Z1 H1 env1 Fs1) (b : Tr T2 Z1 H1 env1 Fs1 Z2 H2 env2 Fs2) (h : ∀ i, T i = false → T1 i = false ∧ T2 i = false) : Tr T Z H env Fs Z2 H2 env2 Fs2 where
  z := fun x q => b.z x (a.z x q)
  zn := fun x q => by
    rcases b.zn x q with q | ⟨j, q⟩ | q
    · exact a.zn x q
    · rcases a.new j x q with q | q
      · exact .inr (.inl q)
      · exact .inr (.inr q)
    · exact .inr (.inr (a.gr x q))
  keep := fun x o q n => b.keep x o (a.keep x o q n) fun i z => by
    rcases a.new i x z with ⟨j, w⟩ | w
    · exact n j w
    · rw [w] at q; cases q
  gr := fun x q => a.gr x (b.gr x q)
  new := fun i x q => by
    rcases b.new i x q with ⟨j, q⟩ | q
    · exact a.new j x q
    · exact .inr (a.gr x q)
  un := fun i q => by
    obtain ⟨t1, t2⟩ := h i q
    obtain ⟨e1, f1, k1⟩ := a.un i t1
    obtain ⟨e2, f2, k2⟩ := b.un i t2
    exact ⟨e2.trans e1, f2.trans f1, fun x hx => (k2 x (by rw [f1]; exact hx)).trans (k1 x hx)⟩
  p := b.p.trans a.p
theorem Tr.mono (a : Tr T1 Z H env Fs Z1 H1 env1 Fs1) (h : ∀ i, T i = false → T1 i = false) : Tr T Z H env Fs Z1 H1 env1 Fs1 :=
  ⟨a.z, a.zn, a.keep, a.gr, a.new, fun i q => a.un i (h i q), a.p⟩
theorem Tr.stay (S : SR K mg Z H σ env Fs) (t : Tr T Z H env Fs Z' H' env' Fs') : Stay Z Z' H H' :=
  ⟨t.z, fun a h => by
    obtain ⟨o, e⟩ := S.zs a h
    rw [e]
    exact t.keep a o e fun i q => S.zf i a q h⟩
/-- a value at hand: its own things are nobody's (src none) or some name's -/
def VP (src : Option Nat) (Z : Addr → Prop) (H : Hp) (Fs : Nat → List Addr) (Z' : Addr → Prop) (H' : Hp) (Fs' : Nat → List Addr) (Fd : List Addr) : Prop :=
  Fd.Nodup ∧ match src with
    | none => ∀ a ∈ Fd, (∀ i, a ∉ Fs' i) ∧ ¬ Z' a ∧ ((∃ j, a ∈ Fs j) ∨ H a = none)
    | some i => ∀ a ∈ Fd, a ∈ Fs' i
theorem VP.nil {src : Option Nat} : VP src Z H Fs Z' H' Fs' [] := by
  refine ⟨List.nodup_nil, ?_⟩
  cases src <;> exact fun _ h => by simp at h
/-- nobody's value behind a step -/
theorem VP.over {Fd : List Addr} (v : VP none Z H Fs Z1 H1 Fs1 Fd) (th : ∀ a ∈ Fd, ∃ o, H1 a = some o) (t : Tr T Z1 H1 env1 Fs1 Z2 H2 env2 Fs2) : VP none Z H Fs Z2 H2 Fs2 Fd := by
  refine ⟨v.1, fun a h => ⟨fun i q => ?_, fun q => ?_, (v.2 a h).2.2⟩⟩
  · obtain ⟨o, e⟩ := th a h
    rcases t.new i a q with ⟨j, q⟩ | q
    · exact (v.2 a h).1 j q
    · rw [e] at q; cases q
  · obtain ⟨o, e⟩ := th a h
    rcases t.zn a q with q | ⟨j, q⟩ | q
    · exact (v.2 a h).2.1 q
    · exact (v.2 a h).1 j q
    · rw [e] at q; cases q
/-- a value at hand stays while its name isn't touched -/
theorem Rep.over {src : Option Nat} {Fd : List Addr} {d : D} {v : V} (S : SR K mg Z1 H1 σ env1 Fs1) (p : VP src Z H Fs Z1 H1 Fs1 Fd) (r : Rep K mg Z1 H1 d v Fd) (t : Tr T Z1 H1 env1 Fs1 Z2 H2 env2 Fs2)
    (h : d.own = false ∨ ∀ i, src = some i → T i = false) : Rep K mg Z2 H2 d v Fd := by
  refine r.stay (t.stay S) fun a ha => ?_
  rcases h with h | h
  · rw [r.unown h] at ha
    cases ha
  · cases src with
    | none =>
      obtain ⟨o, e⟩ := r.there a ha
      rw [e]
      exact t.keep a o e (p.2 a ha).1
    | some i => exact (t.un i (h i rfl)).2.2 a (p.2 a ha)

/-- an exception, as it lies behind what raised it -/
def XAt (K : PySem.W.Frag) (mg : Mg) (Z : Addr → Prop) (H : Hp) (c : Str) (fs : List (Str × D)) (cls : Value) (dd : Option Addr) : Prop :=
  ∃ C, mg c = some (.ref C) ∧ cls = .ref C ∧ ((fs = [] ∧ dd = none) ∨ ∃ d vs, dd = some d ∧ H d = some (.xd ((fs.map (·.1)).zip vs)) ∧ Z d ∧ Repf K mg Z H fs vs [])
/-- what is wanted of what comes out -/
def Cont (K : PySem.W.Frag) (mg : Mg) (T : Nat → Bool) (src : Option Nat) (W : WX) (Q : VK) (σ : St) (Z : Addr → Prop) (H : Hp) (env : Env) (Fs : Nat → List Addr) : Out D → Prop
  | .ok d env' => ∀ v H' Z' Fs' Fd, SR K mg Z' H' σ env' Fs' → Tr T Z H env Fs Z' H' env' Fs' → Rep K mg Z' H' d v Fd → VP src Z H Fs Z' H' Fs' Fd → Q v H'
  | .exc c fs env' => ∀ cls dd H' Z' Fs', SR K mg Z' H' σ env' Fs' → Tr T Z H env Fs Z' H' env' Fs' → XAt K mg Z' H' c fs cls dd → W cls dd σ H'
  | .err => False
theorem VP.back {src : Option Nat} {Fd : List Addr} (t : Tr T1 Z H env Fs Z1 H1 env1 Fs1) (p : VP src Z1 H1 Fs1 Z2 H2 Fs2 Fd) : VP src Z H Fs Z2 H2 Fs2 Fd := by
  refine ⟨p.1, ?_⟩
  cases src with
  | some i => exact p.2
  | none =>
    refine fun a h => ⟨(p.2 a h).1, (p.2 a h).2.1, ?_⟩
    rcases (p.2 a h).2.2 with ⟨j, q⟩ | q
    · exact t.new j a q
    · exact .inr (t.gr a q)
theorem Cont.step {src : Option Nat} {W : WX} {Q : VK} {o : Out D} (c : Cont K mg T src W Q σ Z H env Fs o) (t : Tr T1 Z H env Fs Z1 H1 env1 Fs1) (h : ∀ i, T i = false → T1 i = false ∧ T2 i = false) : Cont K mg T2 src W Q σ Z1 H1 env1 Fs1 o := by
  cases o with
  | ok d e => exact fun v H' Z' Fs' Fd S t2 r p => c v H' Z' Fs' Fd S (t.trans t2 h) r (p.back t)
  | exc x fs e => exact fun cls dd H' Z' Fs' S t2 r => c cls dd H' Z' Fs' S (t.trans t2 h) r
  | err => exact c
/-- a pure result: nothing but new things -/
structure Alloc (Z : Addr → Prop) (H : Hp) (Z' : Addr → Prop) (H' : Hp) (Fd : List Addr) : Prop where
  ext : ∀ a o, H a = some o → H' a = some o
  z : ∀ a, Z a → Z' a
  zn : ∀ a, Z' a → Z a ∨ (H a = none ∧ ∃ o, H' a = some o)
  nd : Fd.Nodup
  fd : ∀ a ∈ Fd, H a = none ∧ ¬ Z' a
theorem Alloc.refl (hz : ∀ a, Z a → ∃ o, H a = some o) : Alloc Z H Z H [] := ⟨fun _ _ h => h, fun _ h => h, fun _ h => .inl h, List.nodup_nil, fun _ h => by simp at h⟩
theorem Alloc.stay {Fd : List Addr} (a : Alloc Z H Z' H' Fd) (hz : ∀ a, Z a → ∃ o, H a = some o) : Stay Z Z' H H' := ⟨a.z, fun b h => by
  obtain ⟨o, e⟩ := hz b h
  rw [e]
  exact a.ext b o e⟩
/-- a new tuple -/
theorem Alloc.tup {p : Addr} {o : HO} (hp : H p = none) : Alloc Z H (fun a => Z a ∨ a = p) (upd H p o) [] :=
  ⟨fun a o h => by rw [upd_ne (ne_of_none h hp)]; exact h, fun a h => .inl h, fun a h => h.elim .inl fun e => .inr ⟨by rw [e]; exact hp, o, by rw [e]; exact upd_same⟩, List.nodup_nil, fun _ h => by simp at h⟩
/-- a new thing of one's own -/
theorem Alloc.own {p : Addr} {o : HO} (hp : H p = none) (hz : ∀ a, Z a → ∃ o, H a = some o) : Alloc Z H Z (upd H p o) [p] :=
  ⟨fun a o h => by rw [upd_ne (ne_of_none h hp)]; exact h, fun a h => h, fun a h => .inl h, by simp, fun a h => by
    have e : a = p := by simpa using h
    subst e
    refine ⟨hp, fun z => ?_⟩
    obtain ⟨o, q⟩ := hz a z
    rw [hp] at q; cases q⟩
theorem SR.alloc {Fd : List Addr} (S : SR K mg Z H σ env Fs) (a : Alloc Z H Z' H' Fd) : SR K mg Z' H' σ env Fs where
  len := S.len
  rep := fun i d e => by
    obtain ⟨v, h1, h2⟩ := S.rep i d e
    refine ⟨v, h1, h2.stay (a.stay S.zs) fun b hb => ?_⟩
    obtain ⟨o, q⟩ := S.tr hb
    rw [q]
    exact a.ext b o q
  no := S.no
  nd := S.nd
  dj := S.dj
  zf := fun i b hb z => by
    obtain ⟨o, q⟩ := S.tr hb
    rcases a.zn b z with z | ⟨z, _⟩
    · exact S.zf i b hb z
    · rw [q] at z; cases z
  zs := fun b z => by
    rcases a.zn b z with z | ⟨_, z⟩
    · obtain ⟨o, q⟩ := S.zs b z
      exact ⟨o, a.ext b o q⟩
    · exact z
theorem Tr.alloc {Fd : List Addr} (S : SR K mg Z H σ env Fs) (a : Alloc Z H Z' H' Fd) : Tr T Z H env Fs Z' H' env Fs where
  z := a.z
  zn := fun b z => (a.zn b z).elim .inl fun q => .inr (.inr q.1)
  keep := fun b o e _ => a.ext b o e
  gr := fun b q => by
    cases e : H b with
    | none => rfl
    | some o =>
      rw [a.ext b o e] at q; cases q
  new := fun i b h => .inl ⟨i, h⟩
  un := fun i _ => ⟨rfl, rfl, fun b hb => by
    obtain ⟨o, q⟩ := S.tr hb
    rw [q]
    exact a.ext b o q⟩
  p := rfl
theorem Cont.ret {W : WX} {Q : VK} {d : D} {v : V} {Fd : List Addr} (S : SR K mg Z H σ env Fs) (c : Cont K mg T none W Q σ Z H env Fs (.ok d env)) (a : Alloc Z H Z' H' Fd) (r : Rep K mg Z' H' d v Fd) : Q v H' :=
  c v H' Z' Fs Fd (S.alloc a) (Tr.alloc S a) r ⟨a.nd, fun b hb => ⟨fun i q => absurd (S.tr q) (fun ⟨o, e⟩ => by
    rw [(a.fd b hb).1] at e
    cases e), (a.fd b hb).2, .inr (a.fd b hb).1⟩⟩
end
end VI
/-! V3: expressions -/
namespace VI
open PySem PySem.Spec L2

/-- an expression's reading, by what it tells -/
def tE (K : PySem.W.Frag) (mg : Mg) (f : M D) (T : Nat → Bool) (src : Option Nat) (W : WX) : TE := fun σ H Q =>
  ∃ Z env Fs, SR K mg Z H σ env Fs ∧ Cont K mg T src W Q σ Z H env Fs (f env)
structure VE (X : Cx) (e : Expr) (f : M D) (T : Nat → Bool) (src : Option Nat) : Prop where
  run : ∀ W, Takes X W → PE X e (tE X.K X.mg f T src W)
theorem pe_imp {X : Cx} {e : Expr} {t t' : TE} (h : PE X e t) (q : ∀ σ H Q, t' σ H Q → t σ H Q) : PE X e t' := ⟨fun pins s σ H Q I w => h.run pins s σ H Q I (q σ H Q w)⟩

def Env.put (env : Env) (i : Nat) (d : D) : Env := { env with s := env.s.set i (some d) }
def fset (Fs : Nat → List Addr) (i : Nat) (G : List Addr) : Nat → List Addr := fun j => if j = i then G else Fs j
theorem fset_self {Fs : Nat → List Addr} {i : Nat} {G : List Addr} : fset Fs i G i = G := if_pos rfl
theorem fset_ne {Fs : Nat → List Addr} {i j : Nat} {G : List Addr} (h : j ≠ i) : fset Fs i G j = Fs j := if_neg h
/-- a name that is only looked at -/
def varM (i : Nat) : M D := fun env => match env.s[i]? with
  | some (some d) => .ok d env
  | _ => .err
/-- a name whose value is kept elsewhere, too: it is never changed from here on -/
def keepM (i : Nat) : M D := fun env => match env.s[i]? with
  | some (some d) => if d.own then .ok d.frz (env.put i d.frz) else .ok d env
  | _ => .err
abbrev T1' (i : Nat) : Nat → Bool := fun j => j == i
/-- what has nothing that may be changed -/
def plainM (f : M D) : M D := bnd f fun d => if d.own then bad else pur d

section
variable {K : PySem.W.Frag} {mg : Mg} {Z Z' Z1 Z2 : Addr → Prop} {H H' H1 H2 : Hp} {σ : L2.St} {env env' env1 env2 : Env} {Fs Fs' Fs1 Fs2 : Nat → List Addr} {T T' T1 T2 : Nat → Bool}
/-- the value of a slot is exchanged, or what stands for it changed -/
theorem SR.mut (S : SR K mg Z H σ env Fs) {i : Nat} {d d' : D} {v : V} {G : List Addr} (hd : env.s[i]? = some (some d)) (hv : σ[i]? = some (some v)) (st : ∀ a, Z a → Z' a) (keep : ∀ a o, H a = some o → a ∉ Fs i → H' a = some o)
    (gr : ∀ a, H' a = none → H a = none) (r : Rep K mg Z' H' d' v G) (nd : G.Nodup) (gn : ∀ a ∈ G, a ∈ Fs i ∨ H a = none) (gz : ∀ a ∈ G, ¬ Z' a) (zn : ∀ a, Z' a → Z a ∨ a ∈ Fs i ∨ H a = none) (zs : ∀ a, Z' a → ∃ o, H' a = some o) :
    SR K mg Z' H' σ (env.put i d') (fset Fs i G) ∧ Tr (T1' i) Z H env Fs Z' H' (env.put i d') (fset Fs i G) := by
  have hi : i < env.s.length := (List.getElem?_eq_some_iff.mp hd).1
  have stay : Stay Z Z' H H' := ⟨st, fun a h => by
    obtain ⟨o, e⟩ := S.zs a h
    rw [e]
    exact keep a o e fun q => S.zf i a q h⟩
  have kj : ∀ j, j ≠ i → ∀ a ∈ Fs j, H' a = H a := fun j hj a ha => by
    obtain ⟨o, e⟩ := S.tr ha
    rw [e]
    exact keep a o e fun q => S.dj j i hj a ha q
  refine ⟨⟨by simpa [Env.put] using S.len, fun j x e => ?_, fun j h => ?_, fun j => ?_, fun j k hjk a ha => ?_, fun j a ha z => ?_, zs⟩, ⟨st, fun a z => ?_, fun a o e n => keep a o e (n i), gr, fun j a ha => ?_, fun j hj => ?_, rfl⟩⟩
  · by_cases hj : j = i
    · subst hj
      rw [Env.put, List.getElem?_set_self hi] at e
      cases e
      exact ⟨v, hv, by rw [fset_self]; exact r⟩
    · rw [Env.put, List.getElem?_set_ne (Ne.symm hj)] at e
      obtain ⟨u, h1, h2⟩ := S.rep j x e
      exact ⟨u, h1, by rw [fset_ne hj]; exact h2.stay stay (kj j hj)⟩
  · by_cases hj : j = i
    · subst hj
      exact absurd (List.getElem?_set_self hi) (h d')
    · rw [fset_ne hj]
      exact S.no j fun x q => h x (by rw [Env.put, List.getElem?_set_ne (Ne.symm hj)]; exact q)
  · by_cases hj : j = i
    · subst hj; rw [fset_self]; exact nd
    · rw [fset_ne hj]; exact S.nd j
  · have th : ∀ l, ∀ b ∈ Fs l, H b ≠ none := fun l b hb q => by
      obtain ⟨o, e⟩ := S.tr hb
      rw [q] at e; cases e
    by_cases hj : j = i
    · subst hj
      rw [fset_self] at ha
      rw [fset_ne (Ne.symm hjk)]
      intro q
      rcases gn a ha with z | z
      · exact S.dj j k hjk a z q
      · exact th k a q z
    · rw [fset_ne hj] at ha
      by_cases hk : k = i
      · subst hk
        rw [fset_self]
        intro q
        rcases gn a q with z | z
        · exact S.dj j k hjk a ha z
        · exact th j a ha z
      · rw [fset_ne hk]
        exact S.dj j k hjk a ha
  · by_cases hj : j = i
    · subst hj; rw [fset_self] at ha; exact gz a ha z
    · rw [fset_ne hj] at ha
      rcases zn a z with z | z | z
      · exact S.zf j a ha z
      · exact S.dj j i hj a ha z
      · obtain ⟨o, e⟩ := S.tr ha
        rw [z] at e; cases e
  · rcases zn a z with z | z | z
    · exact .inl z
    · exact .inr (.inl ⟨i, z⟩)
    · exact .inr (.inr z)
  · by_cases hj : j = i
    · subst hj
      rw [fset_self] at ha
      exact (gn a ha).elim (fun q => .inl ⟨j, q⟩) .inr
    · rw [fset_ne hj] at ha
      exact .inl ⟨j, ha⟩
  · have hj' : j ≠ i := by simpa using hj
    exact ⟨by rw [Env.put, List.getElem?_set_ne (Ne.symm hj')], fset_ne hj', kj j hj'⟩
theorem Env.put_same {env : Env} {i : Nat} {d : D} (h : env.s[i]? = some (some d)) : env.put i d = env := by
  have : env.s.set i (some d) = env.s := by
    apply List.ext_getElem?
    intro j
    by_cases e : i = j
    · subst e
      rw [List.getElem?_set_self (List.getElem?_eq_some_iff.mp h).1, h]
    · rw [List.getElem?_set_ne e]
  rw [Env.put, this]
/-- a slot's value is never changed from here on -/
theorem SR.frz (S : SR K mg Z H σ env Fs) {i : Nat} {d : D} {v : V} (hd : env.s[i]? = some (some d)) (hv : σ[i]? = some (some v)) (r : Rep K mg Z H d v (Fs i)) :
    ∃ Z', SR K mg Z' H σ (env.put i d.frz) (fset Fs i []) ∧ Tr (T1' i) Z H env Fs Z' H (env.put i d.frz) (fset Fs i []) ∧ Rep K mg Z' H d.frz v [] := by
  have r' : Rep K mg (fun a => Z a ∨ a ∈ Fs i) H d.frz v [] := r.frz (fun _ h => .inl h) fun a h => .inr h
  obtain ⟨a, b⟩ := S.mut hd hv (Z' := fun a => Z a ∨ a ∈ Fs i) (fun _ h => .inl h) (fun _ _ h _ => h) (fun _ h => h) r' List.nodup_nil (fun _ h => by simp at h) (fun _ h => by simp at h) (fun a h => h.elim .inl fun q => .inr (.inl q)) fun a h => h.elim (S.zs a) S.tr
  exact ⟨_, a, b, r'⟩
end

section
variable {X : Cx} {e a b : Expr} {pos : Pos} {f fa fb : M D} {T Ta Tb : Nat → Bool} {src sa sb : Option Nat}
theorem ve_const {t : TE} {d : D} (h : PE X e t) (q : ∀ (σ : L2.St) (H : Hp) (Q : VK), (∀ v : V, (∀ Z, Rep X.K X.mg Z H d v []) → Q v H) → t σ H Q) : VE X e (pur d) T0 none := by
  refine ⟨fun W tk => pe_imp h fun σ H Q ⟨Z, env, Fs, S, c⟩ => q σ H Q fun v r => ?_⟩
  exact Cont.ret S c (Alloc.refl S.zs) (r Z)
theorem ve_int {i : Int} {j : Nat} : VE X (.Constant (.int i) j pos) (pur (.int i)) T0 none := ve_const pe_int fun σ H Q h => h _ fun Z => by simp [Rep]
theorem ve_str {x : Str} {j : Nat} : VE X (.Constant (.str x) j pos) (pur (.str x)) T0 none := ve_const pe_str fun σ H Q h => h _ fun Z => by simp [Rep]
theorem ve_bl {x : Bool} {j : Nat} : VE X (.Constant (.bool x) j pos) (pur (.bl x)) T0 none := ve_const pe_bl fun σ H Q h => h _ fun Z => by simp [Rep]
theorem ve_non {j : Nat} : VE X (.Constant .none j pos) (pur .non) T0 none := ve_const pe_non fun σ H Q h => h _ fun Z => by simp [Rep]
/-- a global constant -/
theorem ve_glob {x : Str} {v : V} {u : Value} {d : D} (hd : ∀ Z H, Rep X.K X.mg Z H d v []) (hg : Gl X x) (hm : X.mg x = some u) (r : RelV v u) (hdb : (x == ("__debug__" : Str)) = false := by decide) : VE X (.Name x pos) (pur d) T0 none :=
  ve_const (pe_glob hg hm r hdb) fun σ H Q h => h _ fun Z => hd Z H
theorem ve_var {i : Nat} {x : Str} (hN : X.N[i]? = some x) (hv : Vis X.env.scope x) (hd : (x == ("__debug__" : Str)) = false := by decide) (hcd : (x == ("__classdict__" : Str)) = false := by decide) : VE X (.Name x pos) (varM i) T0 (some i) := by
  refine ⟨fun W tk => pe_imp (pe_var hN hv hd hcd) fun σ H Q ⟨Z, env, Fs, S, c⟩ => ?_⟩
  unfold varM at c
  split at c
  · rename_i d hd
    obtain ⟨v, h1, h2⟩ := S.rep i d hd
    exact ⟨v, h1, c v H Z Fs (Fs i) S Tr.refl h2 ⟨S.nd i, fun a h => h⟩⟩
  · exact c.elim
theorem ve_keep {i : Nat} {x : Str} (hN : X.N[i]? = some x) (hv : Vis X.env.scope x) (hd : (x == ("__debug__" : Str)) = false := by decide) (hcd : (x == ("__classdict__" : Str)) = false := by decide) : VE X (.Name x pos) (keepM i) (T1' i) none := by
  refine ⟨fun W tk => pe_imp (pe_var hN hv hd hcd) fun σ H Q ⟨Z, env, Fs, S, c⟩ => ?_⟩
  unfold keepM at c
  split at c
  · rename_i d hd
    obtain ⟨v, h1, h2⟩ := S.rep i d hd
    refine ⟨v, h1, ?_⟩
    split at c
    · obtain ⟨Z', S', t, r⟩ := S.frz hd h1 h2
      exact c v H Z' _ [] S' t r VP.nil
    · rename_i ho
      have ho : d.own = false := by simpa using ho
      have e := h2.unown ho
      rw [e] at h2
      exact c v H Z Fs [] S Tr.refl h2 VP.nil
  · exact c.elim
theorem ve_plain (h : VE X e f T src) : VE X e (plainM f) T none := by
  refine ⟨fun W tk => pe_imp (h.run W tk) fun σ H Q ⟨Z, env, Fs, S, c⟩ => ⟨Z, env, Fs, S, ?_⟩⟩
  unfold plainM bnd at c
  cases q : f env with
  | err => rw [q] at c; exact c.elim
  | exc x fs e1 => rw [q] at c; exact c
  | ok d e1 =>
    rw [q] at c
    intro v H' Z' Fs' Fd S' t r p
    by_cases ho : d.own = true
    · simp only [ho, if_true] at c
      exact c.elim
    · simp only [ho, if_false] at c
      have e := r.unown (by simpa using ho)
      rw [e] at r
      exact c v H' Z' Fs' [] S' t r VP.nil
theorem VE.weak (h : VE X e f T src) (q : ∀ i, Ta i = false → T i = false) : VE X e f Ta src := by
  refine ⟨fun W tk => pe_imp (h.run W tk) fun σ H Q ⟨Z, env, Fs, S, c⟩ => ⟨Z, env, Fs, S, ?_⟩⟩
  cases o : f env with
  | err => rw [o] at c; exact c.elim
  | exc x fs e1 => rw [o] at c; exact fun cls dd H' Z' Fs' S' t r => c cls dd H' Z' Fs' S' (t.mono q) r
  | ok d e1 => rw [o] at c; exact fun v H' Z' Fs' Fd S' t r p => c v H' Z' Fs' Fd S' (t.mono q) r p

/-- a result that is nothing but new things -/
def Res (K : PySem.W.Frag) (mg : Mg) (Z : Addr → Prop) (H : Hp) (d : D) (Q : VK) : Prop := ∀ v H' Z' Fd, Alloc Z H Z' H' Fd → Rep K mg Z' H' d v Fd → Q v H'
/-- a two-place operation on values -/
def OpD (X : Cx) (f : Value → Value → Sem Value) (g : D → D → Option D) : Prop := ∃ r, OpR X f r ∧
  ∀ {Z : Addr → Prop} {H : Hp} {d1 d2 d : D} {v1 v2 : V} {F1 F2 : List Addr} {Q : VK}, (∀ a, Z a → ∃ o, H a = some o) → Rep X.K X.mg Z H d1 v1 F1 → Rep X.K X.mg Z H d2 v2 F2 → g d1 d2 = some d → Res X.K X.mg Z H d Q → r v1 v2 H Q
def ofO {α : Type} : Option α → M α
  | some a => pur a
  | none => bad
/-- two values, then an operation; k: the first one isn't touched by what tells the second -/
def twoM (k : Bool) (fa fb : M D) (g : D → D → Option D) : M D := bnd fa fun d1 => if k || !d1.own then bnd fb fun d2 => ofO (g d1 d2) else bad
theorem tE_two {K : PySem.W.Frag} {mg : Mg} {W : WX} {σ : L2.St} {H : Hp} {Q : VK} {k : Bool} {g : D → D → Option D} {r : R2} (hk : k = true → ∀ i, sa = some i → Tb i = false)
    (hr : ∀ {Z : Addr → Prop} {H : Hp} {d1 d2 d : D} {v1 v2 : V} {F1 F2 : List Addr} {Q : VK}, (∀ a, Z a → ∃ o, H a = some o) → Rep K mg Z H d1 v1 F1 → Rep K mg Z H d2 v2 F2 → g d1 d2 = some d → Res K mg Z H d Q → r v1 v2 H Q)
    (h : tE K mg (twoM k fa fb g) (tor Ta Tb) none W σ H Q) : tE K mg fa Ta sa W σ H fun x H1 => tE K mg fb Tb sb W σ H1 fun y H2 => r x y H2 Q := by
  obtain ⟨Z, env, Fs, S, c⟩ := h
  refine ⟨Z, env, Fs, S, ?_⟩
  unfold twoM bnd at c
  have sub : ∀ i, tor Ta Tb i = false → Ta i = false ∧ Tb i = false := fun i q => by simpa using q
  cases qa : fa env with
  | err => rw [qa] at c; exact c.elim
  | exc x fs e1 =>
    rw [qa] at c
    exact fun cls dd H' Z' Fs' S' t r => c cls dd H' Z' Fs' S' (t.mono fun i q => (sub i q).1) r
  | ok d1 e1 =>
    rw [qa] at c
    simp only at c
    intro v1 H1 Z1 Fs1 F1 S1 t1 r1 p1
    by_cases hc : (k || !d1.own) = true
    · rw [if_pos hc] at c
      have c := Cont.step c t1 sub
      refine ⟨Z1, e1, Fs1, S1, ?_⟩
      cases qb : fb e1 with
      | err => rw [qb] at c; exact c.elim
      | exc x fs e2 => rw [qb] at c; exact c
      | ok d2 e2 =>
        rw [qb] at c
        simp only at c
        intro v2 H2 Z2 Fs2 F2 S2 t2 r2 p2
        cases qg : g d1 d2 with
        | none => rw [qg] at c; exact c.elim
        | some d =>
          rw [qg] at c
          have c := Cont.step (T2 := T0) c t2 fun i q => ⟨q, rfl⟩
          have r1' := Rep.over S1 p1 r1 t2 (by
            rcases Bool.or_eq_true_iff.mp hc with q | q
            · exact .inr (hk q)
            · exact .inl (by simpa using q))
          exact hr S2.zs r1' r2 qg fun v H' Z' Fd a r => Cont.ret S2 c a r
    · rw [if_neg hc] at c
      exact c.elim
theorem ve_bin {op : Operator} {g : D → D → Option D} (k : Bool) (h : OpD X (binaryOp op) g) (ha : VE X a fa Ta sa) (hb : VE X b fb Tb sb) (hk : k = true → ∀ i, sa = some i → Tb i = false) :
    VE X (.BinOp a op b pos) (twoM k fa fb g) (tor Ta Tb) none := by
  obtain ⟨r, h1, h2⟩ := h
  exact ⟨fun W tk => pe_imp (pe_op h1 (ha.run W tk) (hb.run W tk)) fun σ H Q h => tE_two hk h2 h⟩
theorem ve_cmp {op : CmpOp} {g : D → D → Option D} (k : Bool) (h : OpD X (compareOp op) g) (ha : VE X a fa Ta sa) (hb : VE X b fb Tb sb) (hk : k = true → ∀ i, sa = some i → Tb i = false) (hm : behindInMarks op b = false) :
    VE X (.Compare a [op] [b] pos) (twoM k fa fb g) (tor Ta Tb) none := by
  obtain ⟨r, h1, h2⟩ := h
  exact ⟨fun W tk => pe_imp (pe_cmpR h1 (ha.run W tk) (hb.run W tk) hm) fun σ H Q h => tE_two hk h2 h⟩
/-- a one-place operation -/
def oneM (fa : M D) (g : D → Option D) : M D := bnd fa fun d => ofO (g d)
theorem tE_one {K : PySem.W.Frag} {mg : Mg} {W : WX} {σ : L2.St} {H : Hp} {Q : VK} {g : D → Option D} {r : V → Hp → VK → Prop}
    (hr : ∀ {Z : Addr → Prop} {H : Hp} {d1 d : D} {v1 : V} {F1 : List Addr} {Q : VK}, (∀ a, Z a → ∃ o, H a = some o) → Rep K mg Z H d1 v1 F1 → g d1 = some d → Res K mg Z H d Q → r v1 H Q)
    (h : tE K mg (oneM fa g) Ta none W σ H Q) : tE K mg fa Ta sa W σ H fun x H1 => r x H1 Q := by
  obtain ⟨Z, env, Fs, S, c⟩ := h
  refine ⟨Z, env, Fs, S, ?_⟩
  unfold oneM bnd at c
  cases qa : fa env with
  | err => rw [qa] at c; exact c.elim
  | exc x fs e1 => rw [qa] at c; exact c
  | ok d1 e1 =>
    rw [qa] at c
    simp only at c
    intro v1 H1 Z1 Fs1 F1 S1 t1 r1 p1
    cases qg : g d1 with
    | none => rw [qg] at c; exact c.elim
    | some d =>
      rw [qg] at c
      have c := Cont.step (T2 := T0) c t1 fun i q => ⟨q, rfl⟩
      exact hr S1.zs r1 qg fun v H' Z' Fd a r => Cont.ret S1 c a r
def UnD (X : Cx) (f : Value → Sem Value) (g : D → Option D) : Prop := ∃ r, UnR X f r ∧
  ∀ {Z : Addr → Prop} {H : Hp} {d1 d : D} {v1 : V} {F1 : List Addr} {Q : VK}, (∀ a, Z a → ∃ o, H a = some o) → Rep X.K X.mg Z H d1 v1 F1 → g d1 = some d → Res X.K X.mg Z H d Q → r v1 H Q
theorem ve_un {op : UnaryOp} {g : D → Option D} (h : UnD X (unaryOp op) g) (ha : VE X a fa Ta sa) : VE X (.UnaryOp op a pos) (oneM fa g) Ta none := by
  obtain ⟨r, h1, h2⟩ := h
  exact ⟨fun W tk => pe_imp (pe_un h1 (ha.run W tk)) fun σ H Q h => tE_one h2 h⟩
/-- a call of something built in, by one value, by two -/
def Call1D (X : Cx) (f : Value) (g : D → Option D) : Prop := ∃ r, CallR X f r ∧
  ∀ {Z : Addr → Prop} {H : Hp} {d1 d : D} {v1 : V} {F1 : List Addr} {Q : VK}, (∀ a, Z a → ∃ o, H a = some o) → Rep X.K X.mg Z H d1 v1 F1 → g d1 = some d → Res X.K X.mg Z H d Q → r [v1] H Q
def Call2D (X : Cx) (f : Value) (g : D → D → Option D) : Prop := ∃ r, CallR X f r ∧
  ∀ {Z : Addr → Prop} {H : Hp} {d1 d2 d : D} {v1 v2 : V} {F1 F2 : List Addr} {Q : VK}, (∀ a, Z a → ∃ o, H a = some o) → Rep X.K X.mg Z H d1 v1 F1 → Rep X.K X.mg Z H d2 v2 F2 → g d1 d2 = some d → Res X.K X.mg Z H d Q → r [v1, v2] H Q
variable {x : Str} {p : Pos} {id t : String} {g : D → Option D} {g2 : D → D → Option D}
theorem ve_b1 (h : Call1D X (.builtin id) g) (hg : Gl X x) (hm : X.mg x = none) (hv : bootBuiltins x = some (.builtin id)) (ha : VE X a fa Ta sa) (he : starEach [a] X.env = (false, eval a X.env) :: starEach [] X.env := by rfl) (hn : x ≠ "__name__" := by decide) (hdb : (x == ("__debug__" : Str)) = false := by decide)
    (hpl : ∀ pos, (backTo pos (starEach ([] : List Expr) X.env)).any (·.1) = false := by intro _; rfl) : VE X (.Call (.Name x p) [a] [] pos) (oneM fa g) Ta none := by
  obtain ⟨r, h1, h2⟩ := h
  exact ⟨fun W tk => pe_imp (pe_callB h1 hg hm hv (pa_cons (ha.run W tk) pa_nil he) hn hdb he (hpl pos)) fun σ H Q h => tE_one h2 h⟩
theorem ve_t1 (h : Call1D X (.type t) g) (hg : Gl X x) (hm : X.mg x = none) (hv : bootBuiltins x = some (.type t)) (ha : VE X a fa Ta sa) (he : starEach [a] X.env = (false, eval a X.env) :: starEach [] X.env := by rfl) (hn : x ≠ "__name__" := by decide) (hdb : (x == ("__debug__" : Str)) = false := by decide)
    (hpl : ∀ pos, (backTo pos (starEach ([] : List Expr) X.env)).any (·.1) = false := by intro _; rfl) : VE X (.Call (.Name x p) [a] [] pos) (oneM fa g) Ta none := by
  obtain ⟨r, h1, h2⟩ := h
  exact ⟨fun W tk => pe_imp (pe_callTy h1 hg hm hv (pa_cons (ha.run W tk) pa_nil he) hn hdb he (hpl pos)) fun σ H Q h => tE_one h2 h⟩
theorem ve_b2 (k : Bool) (h : Call2D X (.builtin id) g2) (hg : Gl X x) (hm : X.mg x = none) (hv : bootBuiltins x = some (.builtin id)) (ha : VE X a fa Ta sa) (hb : VE X b fb Tb sb) (hk : k = true → ∀ i, sa = some i → Tb i = false)
    (he : starEach [a, b] X.env = (false, eval a X.env) :: starEach [b] X.env := by rfl) (he2 : starEach [b] X.env = (false, eval b X.env) :: starEach [] X.env := by rfl) (hn : x ≠ "__name__" := by decide) (hdb : (x == ("__debug__" : Str)) = false := by decide)
    (hpl : ∀ pos, (backTo pos (starEach [b] X.env)).any (·.1) = false := by intro _; rfl) : VE X (.Call (.Name x p) [a, b] [] pos) (twoM k fa fb g2) (tor Ta Tb) none := by
  obtain ⟨r, h1, h2⟩ := h
  exact ⟨fun W tk => pe_imp (pe_callB h1 hg hm hv (pa_cons (ha.run W tk) (pa_cons (hb.run W tk) pa_nil he2) he) hn hdb he (hpl pos)) fun σ H Q h => tE_two (sa := sa) (sb := sb) hk h2 h⟩
/-- a[b] -/
def IxD (X : Cx) (g : D → D → Option D) : Prop := ∃ r, IxR X r ∧
  ∀ {Z : Addr → Prop} {H : Hp} {d1 d2 d : D} {v1 v2 : V} {F1 F2 : List Addr} {Q : VK}, (∀ a, Z a → ∃ o, H a = some o) → Rep X.K X.mg Z H d1 v1 F1 → Rep X.K X.mg Z H d2 v2 F2 → g d1 d2 = some d → Res X.K X.mg Z H d Q → r v1 v2 H Q
theorem ve_ix (k : Bool) (h : IxD X g2) (ha : VE X a fa Ta sa) (hb : VE X b fb Tb sb) (hk : k = true → ∀ i, sa = some i → Tb i = false) (hs : PlainIx b) : VE X (.Subscript a b pos) (twoM k fa fb g2) (tor Ta Tb) none := by
  obtain ⟨r, h1, h2⟩ := h
  exact ⟨fun W tk => pe_imp (pe_ix h1 (ha.run W tk) (hb.run W tk) hs) fun σ H Q h => tE_two hk h2 h⟩
end
end VI
/-! V4: tests, and, or, not, if; lists of expressions, displays -/
namespace VI
open PySem PySem.Spec L2

def ContB (K : PySem.W.Frag) (mg : Mg) (T : Nat → Bool) (W : WX) (Q : Bool → Hp → Prop) (σ : L2.St) (Z : Addr → Prop) (H : Hp) (env : Env) (Fs : Nat → List Addr) : Out Bool → Prop
  | .ok b env' => ∀ H' Z' Fs', SR K mg Z' H' σ env' Fs' → Tr T Z H env Fs Z' H' env' Fs' → Q b H'
  | .exc c fs env' => ∀ cls dd H' Z' Fs', SR K mg Z' H' σ env' Fs' → Tr T Z H env Fs Z' H' env' Fs' → XAt K mg Z' H' c fs cls dd → W cls dd σ H'
  | .err => False
def tT (K : PySem.W.Frag) (mg : Mg) (f : M Bool) (T : Nat → Bool) (W : WX) : TT := fun σ H Q => ∃ Z env Fs, SR K mg Z H σ env Fs ∧ ContB K mg T W Q σ Z H env Fs (f env)
structure VT (X : Cx) (e : Expr) (f : M Bool) (T : Nat → Bool) : Prop where
  run : ∀ W, Takes X W → PT X e (tT X.K X.mg f T W)
structure VW (X : Cx) (e : Expr) (f : M Bool) (T : Nat → Bool) : Prop where
  run : ∀ W, Takes X W → PW X e (tT X.K X.mg f T W)
theorem VW.vt {X : Cx} {e : Expr} {f : M Bool} {T : Nat → Bool} (h : VW X e f T) : VT X e f T := ⟨fun W tk => (h.run W tk).pt⟩
def boolM (f : M D) : M Bool := bnd f fun d => match d with
  | .bl b => pur b
  | _ => bad
def andM (fa fb : M Bool) : M Bool := bnd fa fun b => if b = true then fb else pur false
def orM (fa fb : M Bool) : M Bool := bnd fa fun b => if b = true then pur true else fb
def notM (fa : M Bool) : M Bool := bnd fa fun b => pur (!b)
def andD (fa fb : M D) : M D := bnd fa fun d => match d with
  | .bl true => fb
  | .bl false => pur (.bl false)
  | _ => bad
def orD (fa fb : M D) : M D := bnd fa fun d => match d with
  | .bl false => fb
  | .bl true => pur (.bl true)
  | _ => bad
def notD (fa : M D) : M D := bnd fa fun d => match d with
  | .bl b => pur (.bl (!b))
  | _ => bad
def iteM {α : Type} (fc : M Bool) (fa fb : M α) : M α := bnd fc fun b => if b = true then fa else fb

section
variable {K : PySem.W.Frag} {mg : Mg} {Z Z' Z1 Z2 : Addr → Prop} {H H' H1 H2 : Hp} {σ : L2.St} {env env' env1 env2 : Env} {Fs Fs' Fs1 Fs2 : Nat → List Addr} {T T' T1 T2 : Nat → Bool}
theorem ContB.step {W : WX} {Q : Bool → Hp → Prop} {o : Out Bool} (c : ContB K mg T W Q σ Z H env Fs o) (t : Tr T1 Z H env Fs Z1 H1 env1 Fs1) (h : ∀ i, T i = false → T1 i = false ∧ T2 i = false) : ContB K mg T2 W Q σ Z1 H1 env1 Fs1 o := by
  cases o with
  | ok d e => exact fun H' Z' Fs' S t2 => c H' Z' Fs' S (t.trans t2 h)
  | exc x fs e => exact fun cls dd H' Z' Fs' S t2 r => c cls dd H' Z' Fs' S (t.trans t2 h) r
  | err => exact c
theorem tor_sub {Ta Tb : Nat → Bool} : ∀ i, tor Ta Tb i = false → Ta i = false ∧ Tb i = false := fun i q => by simpa using q
end
section
variable {X : Cx} {e a b c : Expr} {pos : Pos} {f fa fb : M D} {ga gb gc : M Bool} {T Ta Tb Tc : Nat → Bool} {src sa sb : Option Nat} {rest : List Expr}
theorem pt_imp {t t' : TT} (h : PT X e t) (q : ∀ σ H Q, t' σ H Q → t σ H Q) : PT X e t' := ⟨fun pins s σ H Q I w => h.run pins s σ H Q I (q σ H Q w)⟩
theorem pw_imp {t t' : TT} (h : PW X e t) (q : ∀ σ H Q, t' σ H Q → t σ H Q) : PW X e t' := ⟨fun wh pins s σ H Q I w => h.run wh pins s σ H Q I (q σ H Q w)⟩
theorem tT_bool {K : PySem.W.Frag} {mg : Mg} {W : WX} {σ : L2.St} {H : Hp} {Q : Bool → Hp → Prop} (h : tT K mg (boolM f) T W σ H Q) : tE K mg f T src W σ H fun x H1 => ∃ k, x = .bl k ∧ Q k H1 := by
  obtain ⟨Z, env, Fs, S, c⟩ := h
  refine ⟨Z, env, Fs, S, ?_⟩
  unfold boolM bnd at c
  cases q : f env with
  | err => rw [q] at c; exact c.elim
  | exc x fs e1 => rw [q] at c; exact c
  | ok d e1 =>
    rw [q] at c
    intro v H' Z' Fs' Fd S' t r p
    cases d <;> first | exact c.elim | skip
    rename_i bb
    simp only [Rep] at r
    exact ⟨bb, r.1, c H' Z' Fs' S' t⟩
theorem vt_val (h : VE X e f T src) (he : ∀ whole, isTrue e X.env whole = (do let v ← whole; standAt e.pos; holding [v] (truthy v)) := by intro _; rfl) : VT X e (boolM f) T :=
  ⟨fun W tk => pt_imp (pt_val (h.run W tk) he) fun σ H Q q => tT_bool q⟩
theorem tT_two {K : PySem.W.Frag} {mg : Mg} {W : WX} {σ : L2.St} {H : Hp} {Q : Bool → Hp → Prop} {k : Bool} {g : D → D → Option D} {r : R2} (hk : k = true → ∀ i, sa = some i → Tb i = false)
    (hr : ∀ {Z : Addr → Prop} {H : Hp} {d1 d2 d : D} {v1 v2 : V} {F1 F2 : List Addr} {Q : VK}, (∀ a, Z a → ∃ o, H a = some o) → Rep K mg Z H d1 v1 F1 → Rep K mg Z H d2 v2 F2 → g d1 d2 = some d → Res K mg Z H d Q → r v1 v2 H Q)
    (h : tT K mg (boolM (twoM k fa fb g)) (tor Ta Tb) W σ H Q) : tE K mg fa Ta sa W σ H fun x H1 => tE K mg fb Tb sb W σ H1 fun y H2 => r x y H2 fun x H' => ∃ k, x = .bl k ∧ Q k H' :=
  tE_two hk hr (tT_bool h)
theorem vt_cmp {op : CmpOp} {g : D → D → Option D} (k : Bool) (h : OpD X (compareOp op) g) (ha : VE X a fa Ta sa) (hb : VE X b fb Tb sb) (hk : k = true → ∀ i, sa = some i → Tb i = false) (hm : behindInMarks op b = false) :
    VT X (.Compare a [op] [b] pos) (boolM (twoM k fa fb g)) (tor Ta Tb) := by
  obtain ⟨r, h1, h2⟩ := h
  exact ⟨fun W tk => pt_imp (pt_cmpR h1 (ha.run W tk) (hb.run W tk) hm) fun σ H Q h => tT_two hk h2 h⟩
theorem vt_not (h : VT X a ga Ta) : VT X (.UnaryOp .Not a pos) (notM ga) Ta := by
  refine ⟨fun W tk => pt_imp (pt_not (h.run W tk)) fun σ H Q ⟨Z, env, Fs, S, c⟩ => ⟨Z, env, Fs, S, ?_⟩⟩
  unfold notM bnd at c
  cases q : ga env with
  | err => rw [q] at c; exact c.elim
  | exc x fs e1 => rw [q] at c; exact c
  | ok d e1 => rw [q] at c; exact c
theorem vw_and1 (h : VT X a ga Ta) : VW X (.BoolOp .And [a] pos) ga Ta := ⟨fun W tk => pw_and1 (h.run W tk)⟩
theorem vw_or1 (h : VT X a ga Ta) : VW X (.BoolOp .Or [a] pos) ga Ta := ⟨fun W tk => pw_or1 (h.run W tk)⟩
theorem vw_and (ha : VT X a ga Ta) (hb : VW X (.BoolOp .And (b :: rest) pos) gb Tb) : VW X (.BoolOp .And (a :: b :: rest) pos) (andM ga gb) (tor Ta Tb) := by
  refine ⟨fun W tk => pw_imp (pw_and (ha.run W tk) (hb.run W tk)) fun σ H Q ⟨Z, env, Fs, S, c⟩ => ⟨Z, env, Fs, S, ?_⟩⟩
  unfold andM bnd at c
  cases q : ga env with
  | err => rw [q] at c; exact c.elim
  | exc x fs e1 =>
    rw [q] at c
    exact fun cls dd H' Z' Fs' S' t r => c cls dd H' Z' Fs' S' (t.mono fun i q => (tor_sub i q).1) r
  | ok d e1 =>
    rw [q] at c
    intro H1 Z1 Fs1 S1 t1
    have c := ContB.step c t1 tor_sub
    dsimp only at c
    cases d with
    | true => rw [if_pos rfl] at c ⊢; exact ⟨Z1, e1, Fs1, S1, c⟩
    | false => rw [if_neg Bool.false_ne_true] at c ⊢; exact c H1 Z1 Fs1 S1 Tr.refl
theorem vw_or (ha : VT X a ga Ta) (hb : VW X (.BoolOp .Or (b :: rest) pos) gb Tb) : VW X (.BoolOp .Or (a :: b :: rest) pos) (orM ga gb) (tor Ta Tb) := by
  refine ⟨fun W tk => pw_imp (pw_or (ha.run W tk) (hb.run W tk)) fun σ H Q ⟨Z, env, Fs, S, c⟩ => ⟨Z, env, Fs, S, ?_⟩⟩
  unfold orM bnd at c
  cases q : ga env with
  | err => rw [q] at c; exact c.elim
  | exc x fs e1 =>
    rw [q] at c
    exact fun cls dd H' Z' Fs' S' t r => c cls dd H' Z' Fs' S' (t.mono fun i q => (tor_sub i q).1) r
  | ok d e1 =>
    rw [q] at c
    intro H1 Z1 Fs1 S1 t1
    have c := ContB.step c t1 tor_sub
    dsimp only at c
    cases d with
    | true => rw [if_pos rfl] at c ⊢; exact c H1 Z1 Fs1 S1 Tr.refl
    | false => rw [if_neg Bool.false_ne_true] at c ⊢; exact ⟨Z1, e1, Fs1, S1, c⟩
/-- as values -/
theorem ve_one {op : BoolOp} (h : VE X a f T src) : VE X (.BoolOp op [a] pos) f T src := ⟨fun W tk => pe_one (h.run W tk)⟩
theorem ve_and (ha : VE X a fa Ta sa) (hb : VE X (.BoolOp .And (b :: rest) pos) fb Tb none) : VE X (.BoolOp .And (a :: b :: rest) pos) (andD fa fb) (tor Ta Tb) none := by
  refine ⟨fun W tk => pe_imp (pe_and (ha.run W tk) (hb.run W tk)) fun σ H Q ⟨Z, env, Fs, S, c⟩ => ⟨Z, env, Fs, S, ?_⟩⟩
  unfold andD bnd at c
  cases q : fa env with
  | err => rw [q] at c; exact c.elim
  | exc x fs e1 =>
    rw [q] at c
    exact fun cls dd H' Z' Fs' S' t r => c cls dd H' Z' Fs' S' (t.mono fun i q => (tor_sub i q).1) r
  | ok d e1 =>
    rw [q] at c
    intro v H1 Z1 Fs1 F1 S1 t1 r p
    have c := Cont.step c t1 tor_sub
    dsimp only at c
    obtain ⟨d, rfl⟩ : ∃ bb, d = .bl bb := by cases d <;> first | exact ⟨_, rfl⟩ | exact c.elim
    simp only [Rep] at r
    refine ⟨d, r.1, ?_⟩
    cases d with
    | true => rw [if_pos rfl]; exact ⟨Z1, e1, Fs1, S1, c⟩
    | false => rw [if_neg Bool.false_ne_true]; exact c _ H1 Z1 Fs1 [] S1 Tr.refl (by simp [Rep]) VP.nil
theorem ve_or (ha : VE X a fa Ta sa) (hb : VE X (.BoolOp .Or (b :: rest) pos) fb Tb none) : VE X (.BoolOp .Or (a :: b :: rest) pos) (orD fa fb) (tor Ta Tb) none := by
  refine ⟨fun W tk => pe_imp (pe_or (ha.run W tk) (hb.run W tk)) fun σ H Q ⟨Z, env, Fs, S, c⟩ => ⟨Z, env, Fs, S, ?_⟩⟩
  unfold orD bnd at c
  cases q : fa env with
  | err => rw [q] at c; exact c.elim
  | exc x fs e1 =>
    rw [q] at c
    exact fun cls dd H' Z' Fs' S' t r => c cls dd H' Z' Fs' S' (t.mono fun i q => (tor_sub i q).1) r
  | ok d e1 =>
    rw [q] at c
    intro v H1 Z1 Fs1 F1 S1 t1 r p
    have c := Cont.step c t1 tor_sub
    dsimp only at c
    obtain ⟨d, rfl⟩ : ∃ bb, d = .bl bb := by cases d <;> first | exact ⟨_, rfl⟩ | exact c.elim
    simp only [Rep] at r
    refine ⟨d, r.1, ?_⟩
    cases d with
    | true => rw [if_pos rfl]; exact c _ H1 Z1 Fs1 [] S1 Tr.refl (by simp [Rep]) VP.nil
    | false => rw [if_neg Bool.false_ne_true]; exact ⟨Z1, e1, Fs1, S1, c⟩
theorem ve_not (h : VE X a fa Ta sa) : VE X (.UnaryOp .Not a pos) (notD fa) Ta none := by
  refine ⟨fun W tk => pe_imp (pe_not (h.run W tk)) fun σ H Q ⟨Z, env, Fs, S, c⟩ => ⟨Z, env, Fs, S, ?_⟩⟩
  unfold notD bnd at c
  cases q : fa env with
  | err => rw [q] at c; exact c.elim
  | exc x fs e1 => rw [q] at c; exact c
  | ok d e1 =>
    rw [q] at c
    intro v H1 Z1 Fs1 F1 S1 t1 r p
    obtain ⟨d, rfl⟩ : ∃ bb, d = .bl bb := by cases d <;> first | exact ⟨_, rfl⟩ | exact c.elim
    simp only [Rep] at r
    exact ⟨d, r.1, c _ H1 Z1 Fs1 [] S1 t1 (by simp [Rep]) VP.nil⟩
theorem ve_if (hc : VT X c gc Tc) (ha : VE X a fa Ta none) (hb : VE X b fb Tb none) : VE X (.IfExp c a b pos) (iteM gc fa fb) (tor Tc (tor Ta Tb)) none := by
  refine ⟨fun W tk => pe_imp (pe_ifExp (hc.run W tk) (ha.run W tk) (hb.run W tk)) fun σ H Q ⟨Z, env, Fs, S, c⟩ => ⟨Z, env, Fs, S, ?_⟩⟩
  unfold iteM bnd at c
  cases q : gc env with
  | err => rw [q] at c; exact c.elim
  | exc x fs e1 =>
    rw [q] at c
    exact fun cls dd H' Z' Fs' S' t r => c cls dd H' Z' Fs' S' (t.mono fun i q => (tor_sub i q).1) r
  | ok d e1 =>
    rw [q] at c
    intro H1 Z1 Fs1 S1 t1
    have c := Cont.step (T2 := tor Ta Tb) c t1 tor_sub
    dsimp only at c
    cases d with
    | true => rw [if_pos rfl] at c ⊢; exact ⟨Z1, e1, Fs1, S1, Cont.step c (T1 := T0) Tr.refl fun i q => ⟨rfl, (tor_sub i q).1⟩⟩
    | false => rw [if_neg Bool.false_ne_true] at c ⊢; exact ⟨Z1, e1, Fs1, S1, Cont.step c (T1 := T0) Tr.refl fun i q => ⟨rfl, (tor_sub i q).2⟩⟩

/-! ### lists of expressions: each a value of its own -/
def ContL (K : PySem.W.Frag) (mg : Mg) (T : Nat → Bool) (W : WX) (Q : List V → Hp → Prop) (σ : L2.St) (Z : Addr → Prop) (H : Hp) (env : Env) (Fs : Nat → List Addr) : Out (List D) → Prop
  | .ok ds env' => ∀ vs H' Z' Fs' Fd, SR K mg Z' H' σ env' Fs' → Tr T Z H env Fs Z' H' env' Fs' → Reps K mg Z' H' ds vs Fd → VP none Z H Fs Z' H' Fs' Fd → Q vs H'
  | .exc c fs env' => ∀ cls dd H' Z' Fs', SR K mg Z' H' σ env' Fs' → Tr T Z H env Fs Z' H' env' Fs' → XAt K mg Z' H' c fs cls dd → W cls dd σ H'
  | .err => False
theorem ContL.step {K : PySem.W.Frag} {mg : Mg} {T T1 T2 : Nat → Bool} {Z Z1 : Addr → Prop} {H H1 : Hp} {σ : L2.St} {env env1 : Env} {Fs Fs1 : Nat → List Addr} {W : WX} {Q : List V → Hp → Prop} {o : Out (List D)} (c : ContL K mg T W Q σ Z H env Fs o) (t : Tr T1 Z H env Fs Z1 H1 env1 Fs1)
    (h : ∀ i, T i = false → T1 i = false ∧ T2 i = false) : ContL K mg T2 W Q σ Z1 H1 env1 Fs1 o := by
  cases o with
  | ok d e => exact fun v H' Z' Fs' Fd S t2 r p => c v H' Z' Fs' Fd S (t.trans t2 h) r (p.back t)
  | exc x fs e => exact fun cls dd H' Z' Fs' S t2 r => c cls dd H' Z' Fs' S (t.trans t2 h) r
  | err => exact c
def tA (K : PySem.W.Frag) (mg : Mg) (f : M (List D)) (T : Nat → Bool) (W : WX) : TA := fun σ H Q => ∃ Z env Fs, SR K mg Z H σ env Fs ∧ ContL K mg T W Q σ Z H env Fs (f env)
structure VA (X : Cx) (es : List Expr) (f : M (List D)) (T : Nat → Bool) : Prop where
  run : ∀ W, Takes X W → PA X es (tA X.K X.mg f T W)
theorem pa_imp {es : List Expr} {t t' : TA} (h : PA X es t) (q : ∀ σ H Q, t' σ H Q → t σ H Q) : PA X es t' := ⟨fun pos pins s σ H Q I w => h.run pos pins s σ H Q I (q σ H Q w)⟩
def consM (f : M D) (g : M (List D)) : M (List D) := bnd f fun d => bnd g fun ds => pur (d :: ds)
theorem va_nil : VA X [] (pur []) T0 := ⟨fun W tk => pa_imp pa_nil fun σ H Q ⟨Z, env, Fs, S, c⟩ => c [] H Z Fs [] S Tr.refl Reps.nil VP.nil⟩
theorem va_cons {es : List Expr} {g : M (List D)} (ha : VE X a fa Ta none) (hb : VA X es g Tb) (hs : starEach (a :: es) X.env = (false, eval a X.env) :: starEach es X.env := by rfl) : VA X (a :: es) (consM fa g) (tor Ta Tb) := by
  refine ⟨fun W tk => pa_imp (pa_cons (ha.run W tk) (hb.run W tk) hs) fun σ H Q ⟨Z, env, Fs, S, c⟩ => ⟨Z, env, Fs, S, ?_⟩⟩
  unfold consM bnd at c
  cases q : fa env with
  | err => rw [q] at c; exact c.elim
  | exc x fs e1 =>
    rw [q] at c
    exact fun cls dd H' Z' Fs' S' t r => c cls dd H' Z' Fs' S' (t.mono fun i q => (tor_sub i q).1) r
  | ok d e1 =>
    rw [q] at c
    simp only at c
    intro v H1 Z1 Fs1 F1 S1 t1 r1 p1
    refine ⟨Z1, e1, Fs1, S1, ?_⟩
    cases q2 : g e1 with
    | err => rw [q2] at c; exact c.elim
    | exc x fs e2 => rw [q2] at c; exact ContL.step c t1 tor_sub
    | ok ds e2 =>
      rw [q2] at c
      have c0 : ContL X.K X.mg (tor Ta Tb) W Q σ Z H env Fs (.ok (d :: ds) e2) := c
      intro vs H2 Z2 Fs2 F2 S2 t2 r2 p2
      have r1' := Rep.over S1 p1 r1 t2 (.inr fun i z => by cases z)
      have p1' := p1.over (fun a ha => r1.there a ha) t2
      have p2' := p2.back t1
      refine c0 (v :: vs) H2 Z2 Fs2 (F1 ++ F2) S2 (t1.trans t2 tor_sub) (Reps.cons r1' r2) ⟨List.nodup_append.mpr ⟨p1.1, p2.1, fun x hx y hy z => ?_⟩, fun x hx => (List.mem_append.mp hx).elim (p1'.2 x) (p2'.2 x)⟩
      subst z
      rcases (p2.2 x hy).2.2 with ⟨j, z⟩ | z
      · exact (p1.2 x hx).1 j z
      · obtain ⟨o, e⟩ := r1.there x hx
        rw [z] at e; cases e
end
end VI
/-! V5: slots taken and put, displays, calls of the program's own defs -/
namespace VI
open PySem PySem.Spec L2

def Env.drop (env : Env) (i : Nat) : Env := { env with s := env.s.set i none }
section
variable {K : PySem.W.Frag} {mg : Mg} {Z Z' Z1 Z2 : Addr → Prop} {H H' H1 H2 : Hp} {σ : L2.St} {env env' env1 env2 : Env} {Fs Fs' Fs1 Fs2 : Nat → List Addr} {T T' T1 T2 : Nat → Bool}
/-- a slot's value is taken out -/
theorem SR.drop (S : SR K mg Z H σ env Fs) (i : Nat) : SR K mg Z H σ (env.drop i) (fset Fs i []) where
  len := by simpa [Env.drop] using S.len
  rep := fun j x e => by
    by_cases hj : j = i
    · subst hj
      by_cases hl : j < env.s.length
      · rw [Env.drop, List.getElem?_set_self hl] at e; cases e
      · rw [Env.drop, List.getElem?_eq_none (by simpa using hl)] at e; cases e
    · rw [Env.drop, List.getElem?_set_ne (Ne.symm hj)] at e
      rw [fset_ne hj]
      exact S.rep j x e
  no := fun j h => by
    by_cases hj : j = i
    · subst hj; exact fset_self
    · rw [fset_ne hj]
      exact S.no j fun x q => h x (by rw [Env.drop, List.getElem?_set_ne (Ne.symm hj)]; exact q)
  nd := fun j => by
    by_cases hj : j = i
    · subst hj; rw [fset_self]; exact List.nodup_nil
    · rw [fset_ne hj]; exact S.nd j
  dj := fun j k hjk a ha q => by
    by_cases hj : j = i
    · subst hj; rw [fset_self] at ha; cases ha
    · by_cases hk : k = i
      · subst hk; rw [fset_self] at q; cases q
      · rw [fset_ne hj] at ha
        rw [fset_ne hk] at q
        exact S.dj j k hjk a ha q
  zf := fun j a ha => by
    by_cases hj : j = i
    · subst hj; rw [fset_self] at ha; cases ha
    · rw [fset_ne hj] at ha; exact S.zf j a ha
  zs := S.zs
theorem SR.apart (S : SR K mg Z H σ env Fs) (i : Nat) : ∀ a ∈ Fs i, (∀ j, a ∉ fset Fs i [] j) ∧ ¬ Z a := fun a ha => ⟨fun j q => by
  by_cases hj : j = i
  · subst hj; rw [fset_self] at q; cases q
  · rw [fset_ne hj] at q; exact S.dj j i hj a q ha, S.zf i a ha⟩
theorem Tr.drop (S : SR K mg Z H σ env Fs) (i : Nat) : Tr (T1' i) Z H env Fs Z H (env.drop i) (fset Fs i []) where
  z := fun _ h => h
  zn := fun _ h => .inl h
  keep := fun _ _ h _ => h
  gr := fun _ h => h
  new := fun j a ha => by
    by_cases hj : j = i
    · subst hj; rw [fset_self] at ha; cases ha
    · rw [fset_ne hj] at ha; exact .inl ⟨j, ha⟩
  un := fun j hj => by
    have hj' : j ≠ i := by simpa using hj
    exact ⟨by rw [Env.drop, List.getElem?_set_ne (Ne.symm hj')], fset_ne hj', fun _ _ => rfl⟩
  p := rfl
/-- a value is put into a slot; σ' has it there -/
theorem SR.put {σ' : L2.St} {i : Nat} {d : D} {v : V} {G : List Addr} (S : SR K mg Z H σ env Fs) (hi : i < env.s.length) (hl : σ'.length = σ.length) (hv : σ'[i]? = some (some v)) (ho : ∀ j, j ≠ i → σ'[j]? = σ[j]?) (r : Rep K mg Z H d v G) (nd : G.Nodup)
    (ap : ∀ a ∈ G, (∀ j, j ≠ i → a ∉ Fs j) ∧ ¬ Z a) : SR K mg Z H σ' (env.put i d) (fset Fs i G) where
  len := by rw [hl, ← S.len]; simp [Env.put]
  rep := fun j x e => by
    by_cases hj : j = i
    · subst hj
      rw [Env.put, List.getElem?_set_self hi] at e
      cases e
      exact ⟨v, hv, by rw [fset_self]; exact r⟩
    · rw [Env.put, List.getElem?_set_ne (Ne.symm hj)] at e
      rw [fset_ne hj, ho j hj]
      exact S.rep j x e
  no := fun j h => by
    by_cases hj : j = i
    · subst hj; exact absurd (List.getElem?_set_self hi) (h d)
    · rw [fset_ne hj]
      exact S.no j fun x q => h x (by rw [Env.put, List.getElem?_set_ne (Ne.symm hj)]; exact q)
  nd := fun j => by
    by_cases hj : j = i
    · subst hj; rw [fset_self]; exact nd
    · rw [fset_ne hj]; exact S.nd j
  dj := fun j k hjk a ha q => by
    by_cases hj : j = i
    · subst hj
      rw [fset_self] at ha
      rw [fset_ne (Ne.symm hjk)] at q
      exact (ap a ha).1 k (Ne.symm hjk) q
    · rw [fset_ne hj] at ha
      by_cases hk : k = i
      · subst hk; rw [fset_self] at q; exact (ap a q).1 j hj ha
      · rw [fset_ne hk] at q; exact S.dj j k hjk a ha q
  zf := fun j a ha => by
    by_cases hj : j = i
    · subst hj; rw [fset_self] at ha; exact (ap a ha).2
    · rw [fset_ne hj] at ha; exact S.zf j a ha
  zs := S.zs
theorem Tr.put {i : Nat} {d : D} {G : List Addr} (gn : ∀ a ∈ G, (∃ j, a ∈ Fs j) ∨ H a = none) : Tr (T1' i) Z H env Fs Z H (env.put i d) (fset Fs i G) where
  z := fun _ h => h
  zn := fun _ h => .inl h
  keep := fun _ _ h _ => h
  gr := fun _ h => h
  new := fun j a ha => by
    by_cases hj : j = i
    · subst hj; rw [fset_self] at ha; exact gn a ha
    · rw [fset_ne hj] at ha; exact .inl ⟨j, ha⟩
  un := fun j hj => by
    have hj' : j ≠ i := by simpa using hj
    exact ⟨by rw [Env.put, List.getElem?_set_ne (Ne.symm hj')], fset_ne hj', fun _ _ => rfl⟩
  p := rfl
end

/-- a name whose value goes on from here (or, where it was handed in, is never changed again) -/
def moveM (i : Nat) : M D := fun env => match env.s[i]? with
  | some (some d) => if d.own then (if env.p[i]? = some true then .ok d.frz (env.put i d.frz) else .ok d (env.drop i)) else .ok d env
  | _ => .err
def tupM (g : M (List D)) : M D := bnd g fun ds => if ds.length ≤ 16777216 then pur (.tup ds) else bad
def lstM (g : M (List D)) : M D := bnd g fun ds => if ds.length ≤ 16777216 then pur (.lst true ds) else bad
section
variable {X : Cx} {e a b c : Expr} {pos : Pos} {f fa fb : M D} {T Ta Tb Tc : Nat → Bool} {src sa sb : Option Nat} {es : List Expr} {g : M (List D)}
theorem ve_move {i : Nat} {x : Str} (hN : X.N[i]? = some x) (hv : Vis X.env.scope x) (hd : (x == ("__debug__" : Str)) = false := by decide) (hcd : (x == ("__classdict__" : Str)) = false := by decide) : VE X (.Name x pos) (moveM i) (T1' i) none := by
  refine ⟨fun W tk => pe_imp (pe_var hN hv hd hcd) fun σ H Q ⟨Z, env, Fs, S, c⟩ => ?_⟩
  unfold moveM at c
  split at c
  · rename_i d hd
    obtain ⟨v, h1, h2⟩ := S.rep i d hd
    refine ⟨v, h1, ?_⟩
    split at c
    · split at c
      · obtain ⟨Z', S', t, r⟩ := S.frz hd h1 h2
        exact c v H Z' _ [] S' t r VP.nil
      · exact c v H Z (fset Fs i []) (Fs i) (S.drop i) (Tr.drop S i) h2 ⟨S.nd i, fun a ha => ⟨(S.apart i a ha).1, (S.apart i a ha).2, .inl ⟨i, ha⟩⟩⟩
    · rename_i ho
      have ho : d.own = false := by simpa using ho
      have e := h2.unown ho
      rw [e] at h2
      exact c v H Z Fs [] S Tr.refl h2 VP.nil
  · exact c.elim
theorem Reps.over {K : PySem.W.Frag} {mg : Mg} {Z Z1 Z2 : Addr → Prop} {H H1 H2 : Hp} {σ : L2.St} {env1 env2 : Env} {Fs Fs1 Fs2 : Nat → List Addr} {Fd : List Addr} {ds : List D} {vs : List V} (S : SR K mg Z1 H1 σ env1 Fs1) (p : VP none Z H Fs Z1 H1 Fs1 Fd) (r : Reps K mg Z1 H1 ds vs Fd)
    (t : Tr T Z1 H1 env1 Fs1 Z2 H2 env2 Fs2) : Reps K mg Z2 H2 ds vs Fd := Reps.stay (t.stay S) r fun a ha => by
  obtain ⟨o, e⟩ := r.there a ha
  rw [e]
  exact t.keep a o e (p.2 a ha).1
theorem ve_tup {x1 : Nat} (h : VA X es g T) : VE X (.Tuple es x1 pos) (tupM g) T none := by
  refine ⟨fun W tk => pe_imp (pe_tup (h.run W tk)) fun σ H Q ⟨Z, env, Fs, S, c⟩ => ⟨Z, env, Fs, S, ?_⟩⟩
  unfold tupM bnd at c
  cases q : g env with
  | err => rw [q] at c; exact c.elim
  | exc x fs e1 => rw [q] at c; exact c
  | ok ds e1 =>
    rw [q] at c
    intro vs H1 Z1 Fs1 F1 S1 t1 r1 p1
    dsimp only at c
    split at c
    · rename_i hl
      refine ⟨by rw [r1.length, sizeLine_eq]; exact hl, fun p hp => ?_⟩
      have al : Alloc Z1 H1 (fun a => Z1 a ∨ a = p) (upd H1 p (.tup vs)) [] := Alloc.tup hp
      have t2 : Tr T0 Z1 H1 e1 Fs1 _ _ e1 Fs1 := Tr.alloc S1 al
      refine c (.ref p) _ _ Fs1 F1 (S1.alloc al) (t1.trans t2 fun i q => ⟨q, rfl⟩) ?_ (p1.over r1.there t2)
      simp only [Rep]
      exact ⟨p, vs, rfl, .inl ⟨.inr rfl, .inl upd_same⟩, r1.over S1 p1 t2⟩
    · exact c.elim
theorem ve_lst (h : VA X es g T) : VE X (.List es pos) (lstM g) T none := by
  refine ⟨fun W tk => pe_imp (pe_lst (h.run W tk)) fun σ H Q ⟨Z, env, Fs, S, c⟩ => ⟨Z, env, Fs, S, ?_⟩⟩
  unfold lstM bnd at c
  cases q : g env with
  | err => rw [q] at c; exact c.elim
  | exc x fs e1 => rw [q] at c; exact c
  | ok ds e1 =>
    rw [q] at c
    intro vs H1 Z1 Fs1 F1 S1 t1 r1 p1
    dsimp only at c
    split at c
    · rename_i hl
      refine ⟨by rw [r1.length, sizeLine_eq]; exact hl, fun p hp => ?_⟩
      have al : Alloc Z1 H1 Z1 (upd H1 p (.lst vs)) [p] := Alloc.own hp S1.zs
      have t2 : Tr T0 Z1 H1 e1 Fs1 _ _ e1 Fs1 := Tr.alloc S1 al
      have p2 := p1.over r1.there t2
      refine c (.ref p) _ _ Fs1 (p :: F1) (S1.alloc al) (t1.trans t2 fun i q => ⟨q, rfl⟩) ?_ ⟨List.nodup_cons.mpr ⟨fun z => ?_, p2.1⟩, fun x hx => ?_⟩
      · simp only [Rep]
        exact ⟨p, vs, F1, rfl, upd_same, r1.over S1 p1 t2, rfl⟩
      · obtain ⟨o, e⟩ := r1.there p z
        rw [hp] at e; cases e
      · rcases List.mem_cons.mp hx with rfl | hx
        · exact ⟨fun i z => absurd (S1.tr z) (fun ⟨o, e⟩ => by
            rw [hp] at e
            cases e), (al.fd x (by simp)).2, .inr (t1.gr x hp)⟩
        · exact p2.2 x hx
    · exact c.elim
end

/-! ### calls of the program's own defs -/
inductive CRes where
  | ok (d : D) (fin : List D)
  | exc (c : Str) (fs : List (Str × D)) (fin : List D)
  | err
/-- the program's defs by their names -/
abbrev Phi := Str → List D → CRes
def envOf (ds : List D) : Env := ⟨ds.map some, []⟩
/-- a def's promise -/
def spOf (K : PySem.W.Frag) (mg : Mg) (np : Nat) (φ : List D → CRes) : Sp := fun vs H Q E => vs.length = np ∧ ∃ Z ds Gs, SR K mg Z H (vs.map some) (envOf ds) Gs ∧
  match φ ds with
  | .ok d fin => ∀ v H' Z' Gs' Fd, SR K mg Z' H' (vs.map some) (envOf fin) Gs' → Tr (fun _ => true) Z H (envOf ds) Gs Z' H' (envOf fin) Gs' → Rep K mg Z' H' d v Fd → VP none Z H Gs Z' H' Gs' Fd → Q v H'
  | .exc c fs fin => ∀ cls dd H' Z' Gs', SR K mg Z' H' (vs.map some) (envOf fin) Gs' → Tr (fun _ => true) Z H (envOf ds) Gs Z' H' (envOf fin) Gs' → XAt K mg Z' H' c fs cls dd → E cls dd H'
  | .err => False

/-- an argument: a value, or a name, whose value is handed in as it is -/
inductive Arg where
  | v (d : D) | n (i : Nat)
section
variable (K : PySem.W.Frag) (mg : Mg) (Z : Addr → Prop) (H : Hp) (σ : L2.St)
def AReps : List Arg → List V → List Addr → Prop
  | [], vs, F => vs = [] ∧ F = []
  | .v d :: as, vs, F => ∃ v r F1 F2, vs = v :: r ∧ Rep K mg Z H d v F1 ∧ AReps as r F2 ∧ F = F1 ++ F2
  | .n i :: as, vs, F => ∃ v r, vs = v :: r ∧ σ[i]? = some (some v) ∧ AReps as r F
end
theorem AReps.there {K : PySem.W.Frag} {mg : Mg} {Z : Addr → Prop} {H : Hp} {σ : L2.St} : ∀ {as : List Arg} {vs : List V} {F : List Addr}, AReps K mg Z H σ as vs F → ∀ a ∈ F, ∃ o, H a = some o
  | [], _, _, h => by
    simp only [AReps] at h
    simp [h.2]
  | .v d :: as, vs, F, h => by
    simp only [AReps] at h
    obtain ⟨v, r, F1, F2, e, a, b, f⟩ := h
    subst f
    exact fun c hc => (List.mem_append.mp hc).elim (Rep.there a c) (AReps.there b c)
  | .n i :: as, vs, F, h => by
    simp only [AReps] at h
    obtain ⟨v, r, e, a, b⟩ := h
    exact AReps.there b
theorem AReps.stay {K : PySem.W.Frag} {mg : Mg} {Z Z' : Addr → Prop} {H H' : Hp} {σ : L2.St} (s : Stay Z Z' H H') : ∀ {as : List Arg} {vs : List V} {F : List Addr}, AReps K mg Z H σ as vs F → (∀ a ∈ F, H' a = H a) → AReps K mg Z' H' σ as vs F
  | [], _, _, h, _ => by simpa only [AReps] using h
  | .v d :: as, vs, F, h, k => by
    simp only [AReps] at h ⊢
    obtain ⟨v, r, F1, F2, e, a, b, f⟩ := h
    subst f
    exact ⟨v, r, F1, F2, e, Rep.stay s a fun c hc => k c (by simp [hc]), AReps.stay s b fun c hc => k c (by simp [hc]), rfl⟩
  | .n i :: as, vs, F, h, k => by
    simp only [AReps] at h ⊢
    obtain ⟨v, r, e, a, b⟩ := h
    exact ⟨v, r, e, a, AReps.stay s b k⟩
def ContA (K : PySem.W.Frag) (mg : Mg) (T : Nat → Bool) (W : WX) (Q : List V → Hp → Prop) (σ : L2.St) (Z : Addr → Prop) (H : Hp) (env : Env) (Fs : Nat → List Addr) : Out (List Arg) → Prop
  | .ok as env' => ∀ vs H' Z' Fs' Fd, SR K mg Z' H' σ env' Fs' → Tr T Z H env Fs Z' H' env' Fs' → AReps K mg Z' H' σ as vs Fd → VP none Z H Fs Z' H' Fs' Fd → Q vs H'
  | .exc c fs env' => ∀ cls dd H' Z' Fs', SR K mg Z' H' σ env' Fs' → Tr T Z H env Fs Z' H' env' Fs' → XAt K mg Z' H' c fs cls dd → W cls dd σ H'
  | .err => False
theorem ContA.step {K : PySem.W.Frag} {mg : Mg} {T T1 T2 : Nat → Bool} {Z Z1 : Addr → Prop} {H H1 : Hp} {σ : L2.St} {env env1 : Env} {Fs Fs1 : Nat → List Addr} {W : WX} {Q : List V → Hp → Prop} {o : Out (List Arg)} (c : ContA K mg T W Q σ Z H env Fs o) (t : Tr T1 Z H env Fs Z1 H1 env1 Fs1)
    (h : ∀ i, T i = false → T1 i = false ∧ T2 i = false) : ContA K mg T2 W Q σ Z1 H1 env1 Fs1 o := by
  cases o with
  | ok d e => exact fun v H' Z' Fs' Fd S t2 r p => c v H' Z' Fs' Fd S (t.trans t2 h) r (p.back t)
  | exc x fs e => exact fun cls dd H' Z' Fs' S t2 r => c cls dd H' Z' Fs' S (t.trans t2 h) r
  | err => exact c
def tG (K : PySem.W.Frag) (mg : Mg) (f : M (List Arg)) (T : Nat → Bool) (W : WX) : TA := fun σ H Q => ∃ Z env Fs, SR K mg Z H σ env Fs ∧ ContA K mg T W Q σ Z H env Fs (f env)
/-- the slots of the names among the arguments -/
def namesA : List Arg → Nat → Bool
  | [], _ => false
  | .v _ :: as, j => namesA as j
  | .n i :: as, j => j == i || namesA as j
/-- arguments of a call of a def -/
structure VG (X : Cx) (es : List Expr) (f : M (List Arg)) (T : Nat → Bool) : Prop where
  run : ∀ W, Takes X W → PA X es (tG X.K X.mg f T W)
  nm : ∀ env as e', f env = .ok as e' → ∀ j, T j = false → namesA as j = false
def argM (f : M D) (g : M (List Arg)) : M (List Arg) := bnd f fun d => bnd g fun ds => pur (.v d :: ds)
def narM (i : Nat) (g : M (List Arg)) : M (List Arg) := fun env => match env.s[i]? with
  | some (some _) => (bnd g fun ds => pur (.n i :: ds)) env
  | _ => .err
section
variable {X : Cx} {e a b c : Expr} {pos : Pos} {f fa fb : M D} {T Ta Tb Tc : Nat → Bool} {es : List Expr} {g : M (List Arg)}
theorem vg_nil : VG X [] (pur []) T0 := ⟨fun W tk => pa_imp pa_nil fun σ H Q ⟨Z, env, Fs, S, c⟩ => c [] H Z Fs [] S Tr.refl (by simp [AReps]) VP.nil, fun env as e' h j _ => by
  simp only [pur, Out.ok.injEq] at h
  rw [← h.1]
  rfl⟩
theorem vg_cons (ha : VE X a fa Ta none) (hb : VG X es g Tb) (hs : starEach (a :: es) X.env = (false, eval a X.env) :: starEach es X.env := by rfl) : VG X (a :: es) (argM fa g) (tor Ta Tb) := by
  refine ⟨fun W tk => pa_imp (pa_cons (ha.run W tk) (hb.run W tk) hs) fun σ H Q ⟨Z, env, Fs, S, c⟩ => ⟨Z, env, Fs, S, ?_⟩, fun env as e' h j hj => ?_⟩
  rotate_left
  · unfold argM bnd at h
    cases q : fa env with
    | err => rw [q] at h; cases h
    | exc x fs e1 => rw [q] at h; cases h
    | ok d e1 =>
      rw [q] at h
      dsimp only at h
      cases q2 : g e1 with
      | err => rw [q2] at h; cases h
      | exc x fs e2 => rw [q2] at h; cases h
      | ok ds e2 =>
        rw [q2] at h
        simp only [pur, Out.ok.injEq] at h
        rw [← h.1]
        exact hb.nm e1 ds e2 q2 j (tor_sub j hj).2
  unfold argM bnd at c
  cases q : fa env with
  | err => rw [q] at c; exact c.elim
  | exc x fs e1 =>
    rw [q] at c
    exact fun cls dd H' Z' Fs' S' t r => c cls dd H' Z' Fs' S' (t.mono fun i q => (tor_sub i q).1) r
  | ok d e1 =>
    rw [q] at c
    simp only at c
    intro v H1 Z1 Fs1 F1 S1 t1 r1 p1
    refine ⟨Z1, e1, Fs1, S1, ?_⟩
    cases q2 : g e1 with
    | err => rw [q2] at c; exact c.elim
    | exc x fs e2 => rw [q2] at c; exact ContA.step c t1 tor_sub
    | ok ds e2 =>
      rw [q2] at c
      have c0 : ContA X.K X.mg (tor Ta Tb) W Q σ Z H env Fs (.ok (.v d :: ds) e2) := c
      intro vs H2 Z2 Fs2 F2 S2 t2 r2 p2
      have r1' := Rep.over S1 p1 r1 t2 (.inr fun i z => by cases z)
      have p1' := p1.over (fun a ha => r1.there a ha) t2
      have p2' := p2.back t1
      refine c0 (v :: vs) H2 Z2 Fs2 (F1 ++ F2) S2 (t1.trans t2 tor_sub) (by simp only [AReps]; exact ⟨v, vs, F1, F2, rfl, r1', r2, rfl⟩) ⟨List.nodup_append.mpr ⟨p1.1, p2.1, fun x hx y hy z => ?_⟩, fun x hx => (List.mem_append.mp hx).elim (p1'.2 x) (p2'.2 x)⟩
      subst z
      rcases (p2.2 x hy).2.2 with ⟨j, z⟩ | z
      · exact (p1.2 x hx).1 j z
      · obtain ⟨o, e⟩ := r1.there x hx
        rw [z] at e; cases e
theorem vg_name {i : Nat} {x : Str} {p : Pos} (hN : X.N[i]? = some x) (hv : Vis X.env.scope x) (hb : VG X es g Tb) (hd : (x == ("__debug__" : Str)) = false := by decide) (hcd : (x == ("__classdict__" : Str)) = false := by decide)
    (hs : starEach (.Name x p :: es) X.env = (false, eval (.Name x p) X.env) :: starEach es X.env := by rfl) : VG X (.Name x p :: es) (narM i g) (tor (T1' i) Tb) := by
  refine ⟨fun W tk => pa_imp (pa_cons (pe_var hN hv hd hcd) (hb.run W tk) hs) fun σ H Q ⟨Z, env, Fs, S, c⟩ => ?_, fun env as e' h j hj => ?_⟩
  rotate_left
  · unfold narM bnd at h
    split at h
    · cases q2 : g env with
      | err => rw [q2] at h; cases h
      | exc x fs e2 => rw [q2] at h; cases h
      | ok ds e2 =>
        rw [q2] at h
        simp only [pur, Out.ok.injEq] at h
        rw [← h.1]
        simp only [namesA, Bool.or_eq_false_iff]
        exact ⟨(tor_sub j hj).1, hb.nm env ds e2 q2 j (tor_sub j hj).2⟩
    · cases h
  unfold narM bnd at c
  split at c
  · rename_i d hd
    obtain ⟨v, h1, h2⟩ := S.rep i d hd
    refine ⟨v, h1, Z, env, Fs, S, ?_⟩
    cases q2 : g env with
    | err => rw [q2] at c; exact c.elim
    | exc x fs e2 =>
      rw [q2] at c
      exact fun cls dd H' Z' Fs' S' t r => c cls dd H' Z' Fs' S' (t.mono fun i q => (tor_sub i q).2) r
    | ok ds e2 =>
      rw [q2] at c
      intro vs H2 Z2 Fs2 F2 S2 t2 r2 p2
      exact c (v :: vs) H2 Z2 Fs2 F2 S2 (t2.mono fun i q => (tor_sub i q).2) (by simp only [AReps]; exact ⟨v, vs, rfl, h1, r2⟩) p2
  · exact c.elim
end
end VI
/-! V6: the call of a def -/
namespace VI
open PySem PySem.Spec L2

/-- the values handed in; a name's, that may be changed, is taken out of its slot meanwhile -/
def takeA : List Arg → Env → Option (List D × Env)
  | [], env => some ([], env)
  | .v d :: as, env => match takeA as env with
    | some (ds, e) => some (d :: ds, e)
    | none => none
  | .n i :: as, env => match env.s[i]? with
    | some (some d) => if d.own then (match takeA as (env.drop i) with
      | some (ds, e) => some (d :: ds, e)
      | none => none) else (match takeA as env with
      | some (ds, e) => some (d :: ds, e)
      | none => none)
    | _ => none
/-- .. and put back -/
def backA : List Arg → List D → List D → Env → Env
  | .n i :: as, d :: ds, f :: fs, env => if d.own then (backA as ds fs env).put i f else backA as ds fs env
  | .v _ :: as, _ :: ds, _ :: fs, env => backA as ds fs env
  | _, _, _, env => env
def callM (φ : List D → CRes) (g : M (List Arg)) : M D := bnd g fun as env => match takeA as env with
  | none => .err
  | some (ds, e1) => match φ ds with
    | .ok d fin => .ok d (backA as ds fin e1)
    | .exc c fs fin => .exc c fs (backA as ds fin e1)
    | .err => .err
section
variable {K : PySem.W.Frag} {mg : Mg} {Z Z' Z1 Z2 : Addr → Prop} {H H' H1 H2 : Hp} {σ : L2.St} {env env' env1 env2 : Env} {Fs Fs' Fs1 Fs2 : Nat → List Addr} {T T' T1 T2 : Nat → Bool}
/-- the handed in values, one by one, each with its own things -/
def ARs (K : PySem.W.Frag) (mg : Mg) (Z : Addr → Prop) (H : Hp) : List D → List V → List (List Addr) → Prop
  | [], vs, L => vs = [] ∧ L = []
  | d :: ds, vs, L => ∃ v r F M, vs = v :: r ∧ L = F :: M ∧ Rep K mg Z H d v F ∧ ARs K mg Z H ds r M
def lget (L : List (List Addr)) (k : Nat) : List Addr := L.getD k []
theorem mem_lget {L : List (List Addr)} {k : Nat} {a : Addr} (h : a ∈ lget L k) : a ∈ L.flatten := by
  unfold lget at h
  rw [List.getD_eq_getElem?_getD] at h
  cases e : L[k]? with
  | none => rw [e] at h; simp at h
  | some G =>
    rw [e] at h
    exact List.mem_flatten.mpr ⟨G, List.mem_of_getElem? e, h⟩
theorem lget_apart : ∀ {L : List (List Addr)}, L.flatten.Nodup → ∀ {i j : Nat} {a : Addr}, i ≠ j → a ∈ lget L i → a ∉ lget L j
  | [], _, i, j, a, _, h => by simp [lget] at h
  | F :: L, n, i, j, a, ne, h => by
    rw [List.flatten_cons, List.nodup_append] at n
    obtain ⟨n1, n2, n3⟩ := n
    cases i with
    | zero =>
      cases j with
      | zero => exact absurd rfl ne
      | succ j =>
        have h0 : a ∈ F := by simpa [lget] using h
        intro q
        have q' : a ∈ lget L j := by simpa [lget] using q
        exact n3 a h0 a (mem_lget q') rfl
    | succ i =>
      have h' : a ∈ lget L i := by simpa [lget] using h
      cases j with
      | zero =>
        intro q
        have q0 : a ∈ F := by simpa [lget] using q
        exact n3 a q0 a (mem_lget h') rfl
      | succ j =>
        intro q
        have q' : a ∈ lget L j := by simpa [lget] using q
        exact lget_apart n2 (fun e => ne (by rw [e])) h' q'
theorem lget_nodup : ∀ {L : List (List Addr)}, L.flatten.Nodup → ∀ k, (lget L k).Nodup
  | [], _, k => by simp [lget]
  | F :: L, n, k => by
    rw [List.flatten_cons, List.nodup_append] at n
    cases k with
    | zero => simpa [lget] using n.1
    | succ k => simpa [lget] using lget_nodup n.2.1 k
theorem ARs.get : ∀ {ds : List D} {vs : List V} {L : List (List Addr)}, ARs K mg Z H ds vs L → ∀ {k : Nat} {d : D}, ds[k]? = some d → ∃ v, vs[k]? = some v ∧ Rep K mg Z H d v (lget L k)
  | [], _, _, _, _, _, e => by simp at e
  | x :: ds, vs, L, h, k, d, e => by
    simp only [ARs] at h
    obtain ⟨v, r, F, M, h1, h2, h3, h4⟩ := h
    subst h1 h2
    cases k with
    | zero =>
      simp only [List.getElem?_cons_zero, Option.some.injEq] at e
      subst e
      exact ⟨v, rfl, by simpa [lget] using h3⟩
    | succ k =>
      obtain ⟨u, u1, u2⟩ := ARs.get h4 (k := k) (d := d) (by simpa using e)
      exact ⟨u, by simpa using u1, by simpa [lget] using u2⟩
theorem ARs.length : ∀ {ds : List D} {vs : List V} {L : List (List Addr)}, ARs K mg Z H ds vs L → vs.length = ds.length ∧ L.length = ds.length
  | [], _, _, h => by
    simp only [ARs] at h
    simp [h.1, h.2]
  | x :: ds, vs, L, h => by
    simp only [ARs] at h
    obtain ⟨v, r, F, M, h1, h2, h3, h4⟩ := h
    subst h1 h2
    simp [(ARs.length h4).1, (ARs.length h4).2]
theorem ARs.sr {ds : List D} {vs : List V} {L : List (List Addr)} (h : ARs K mg Z H ds vs L) (n : L.flatten.Nodup) (z : ∀ a ∈ L.flatten, ¬ Z a) (zs : ∀ a, Z a → ∃ o, H a = some o) : SR K mg Z H (vs.map some) (envOf ds) (lget L) where
  len := by simp [envOf, h.length.1]
  rep := fun k d e => by
    have e' : ds[k]? = some d := by
      simp only [envOf, List.getElem?_map] at e
      cases q : ds[k]? with
      | none => rw [q] at e; cases e
      | some x => rw [q] at e; simpa using e
    obtain ⟨v, h1, h2⟩ := h.get e'
    exact ⟨v, by simp [h1], h2⟩
  no := fun k hk => by
    by_cases q : k < ds.length
    · exact absurd (by simp [envOf, q]) (hk (ds[k]))
    · unfold lget
      rw [List.getD_eq_getElem?_getD, List.getElem?_eq_none (by rw [h.length.2]; omega)]
      rfl
  nd := lget_nodup n
  dj := fun i j ne a ha => lget_apart n ne ha
  zf := fun i a ha => z a (mem_lget ha)
  zs := zs
/-- the values are taken out -/
theorem take_ok : ∀ {as : List Arg} {vs : List V} {F : List Addr} {env : Env} {Fs : Nat → List Addr} {ds : List D} {e1 : Env}, SR K mg Z H σ env Fs → AReps K mg Z H σ as vs F → F.Nodup → (∀ a ∈ F, (∀ i, a ∉ Fs i) ∧ ¬ Z a) → takeA as env = some (ds, e1) →
    ∃ L Fs1, SR K mg Z H σ e1 Fs1 ∧ ARs K mg Z H ds vs L ∧ L.flatten.Nodup ∧ (∀ a ∈ L.flatten, (∀ i, a ∉ Fs1 i) ∧ ¬ Z a ∧ (a ∈ F ∨ ∃ i, a ∈ Fs i)) ∧ (∀ i, namesA as i = false → e1.s[i]? = env.s[i]? ∧ Fs1 i = Fs i) ∧ (∀ i, ∀ a ∈ Fs1 i, a ∈ Fs i) ∧ e1.p = env.p ∧ e1.s.length = env.s.length ∧ (∀ i, Fs1 i = Fs i ∨ Fs1 i = [])
  | [], vs, F, env, Fs, ds, e1, S, r, n, ap, h => by
    simp only [takeA, Option.some.injEq, Prod.mk.injEq] at h
    obtain ⟨rfl, rfl⟩ := h
    simp only [AReps] at r
    obtain ⟨rfl, rfl⟩ := r
    exact ⟨[], Fs, S, by simp [ARs], by simp, by simp, fun i _ => ⟨rfl, rfl⟩, fun _ _ h => h, rfl, rfl, fun _ => .inl rfl⟩
  | .v d :: as, vs, F, env, Fs, ds, e1, S, r, n, ap, h => by
    simp only [AReps] at r
    obtain ⟨v, vr, F1, F2, rfl, r1, r2, rfl⟩ := r
    rw [List.nodup_append] at n
    obtain ⟨n1, n2, n3⟩ := n
    simp only [takeA] at h
    cases q : takeA as env with
    | none => rw [q] at h; cases h
    | some p =>
      obtain ⟨ds', e'⟩ := p
      rw [q] at h
      simp only [Option.some.injEq, Prod.mk.injEq] at h
      obtain ⟨rfl, rfl⟩ := h
      obtain ⟨L, Fs1, S1, A1, N1, P1, U1, B1, pp, ll, oo⟩ := take_ok S r2 n2 (fun a ha => ap a (by simp [ha])) q
      refine ⟨F1 :: L, Fs1, S1, by simp only [ARs]; exact ⟨v, vr, F1, L, rfl, rfl, r1, A1⟩, ?_, fun a ha => ?_, fun i hi => U1 i (by simpa [namesA] using hi), B1, pp, ll, oo⟩
      · rw [List.flatten_cons, List.nodup_append]
        refine ⟨n1, N1, fun x hx y hy e => ?_⟩
        subst e
        rcases (P1 x hy).2.2 with z | ⟨i, z⟩
        · exact n3 x hx x z rfl
        · exact (ap x (by simp [hx])).1 i z
      · rw [List.flatten_cons] at ha
        rcases List.mem_append.mp ha with ha | ha
        · exact ⟨fun i q => (ap a (by simp [ha])).1 i (B1 i a q), (ap a (by simp [ha])).2, .inl (by simp [ha])⟩
        · obtain ⟨x1, x2, x3⟩ := P1 a ha
          exact ⟨x1, x2, x3.elim (fun q => .inl (by simp [q])) .inr⟩
  | .n i :: as, vs, F, env, Fs, ds, e1, S, r, n, ap, h => by
    simp only [AReps] at r
    obtain ⟨v, vr, rfl, hv, r2⟩ := r
    simp only [takeA] at h
    split at h
    · rename_i d hd
      obtain ⟨v', h1, h2⟩ := S.rep i d hd
      rw [hv] at h1
      simp only [Option.some.injEq] at h1
      subst h1
      split at h
      · cases q : takeA as (env.drop i) with
        | none => rw [q] at h; cases h
        | some p =>
          obtain ⟨ds', e'⟩ := p
          rw [q] at h
          simp only [Option.some.injEq, Prod.mk.injEq] at h
          obtain ⟨rfl, rfl⟩ := h
          have apd : ∀ a ∈ F, (∀ j, a ∉ fset Fs i [] j) ∧ ¬ Z a := fun a ha => ⟨fun j z => by
            by_cases hj : j = i
            · subst hj; rw [fset_self] at z; cases z
            · rw [fset_ne hj] at z; exact (ap a ha).1 j z, (ap a ha).2⟩
          obtain ⟨L, Fs1, S1, A1, N1, P1, U1, B1, pp, ll, oo⟩ := take_ok (S.drop i) r2 n apd q
          have sub : ∀ j, ∀ a ∈ Fs1 j, a ∈ Fs j ∧ j ≠ i := fun j a ha => by
            have z := B1 j a ha
            by_cases hj : j = i
            · subst hj; rw [fset_self] at z; cases z
            · rw [fset_ne hj] at z; exact ⟨z, hj⟩
          refine ⟨Fs i :: L, Fs1, S1, by simp only [ARs]; exact ⟨v, vr, Fs i, L, rfl, rfl, h2, A1⟩, ?_, fun a ha => ?_, fun j hj => ?_, fun j a ha => (sub j a ha).1, pp, by rw [ll]; simp [Env.drop], fun j => ?_⟩
          · rw [List.flatten_cons, List.nodup_append]
            refine ⟨S.nd i, N1, fun x hx y hy e => ?_⟩
            subst e
            rcases (P1 x hy).2.2 with z | ⟨j, z⟩
            · exact (ap x z).1 i hx
            · exact (S.apart i x hx).1 j z
          · rw [List.flatten_cons] at ha
            rcases List.mem_append.mp ha with ha | ha
            · exact ⟨fun j q => S.dj i j (fun e => (sub j a q).2 e.symm) a ha (sub j a q).1, S.zf i a ha, .inr ⟨i, ha⟩⟩
            · obtain ⟨x1, x2, x3⟩ := P1 a ha
              refine ⟨x1, x2, x3.elim .inl fun ⟨j, q⟩ => .inr ⟨j, ?_⟩⟩
              by_cases hj : j = i
              · subst hj; rw [fset_self] at q; cases q
              · rw [fset_ne hj] at q; exact q
          · simp only [namesA, Bool.or_eq_false_iff, beq_eq_false_iff_ne, ne_eq] at hj
            obtain ⟨u1, u2⟩ := U1 j hj.2
            rw [u1, u2, Env.drop, List.getElem?_set_ne (Ne.symm hj.1), fset_ne hj.1]
            exact ⟨rfl, rfl⟩
          · rcases oo j with z | z
            · by_cases hj : j = i
              · subst hj; rw [fset_self] at z; exact .inr z
              · rw [fset_ne hj] at z; exact .inl z
            · exact .inr z
      · rename_i ho
        have ho : d.own = false := by simpa using ho
        have e0 := h2.unown ho
        cases q : takeA as env with
        | none => rw [q] at h; cases h
        | some p =>
          obtain ⟨ds', e'⟩ := p
          rw [q] at h
          simp only [Option.some.injEq, Prod.mk.injEq] at h
          obtain ⟨rfl, rfl⟩ := h
          obtain ⟨L, Fs1, S1, A1, N1, P1, U1, B1, pp, ll, oo⟩ := take_ok S r2 n ap q
          rw [e0] at h2
          refine ⟨[] :: L, Fs1, S1, by simp only [ARs]; exact ⟨v, vr, [], L, rfl, rfl, h2, A1⟩, by simpa using N1, fun a ha => P1 a (by simpa using ha), fun j hj => ?_, B1, pp, ll, oo⟩
          simp only [namesA, Bool.or_eq_false_iff] at hj
          exact U1 j hj.2
    · cases h
theorem back_len : ∀ {as : List Arg} {ds fin : List D} {env : Env}, (backA as ds fin env).s.length = env.s.length ∧ (backA as ds fin env).p = env.p
  | [], _, _, _ => by simp [backA]
  | .v _ :: as, [], _, _ => by simp [backA]
  | .v _ :: as, _ :: _, [], _ => by simp [backA]
  | .v _ :: as, _ :: ds, _ :: fs, env => by
    simp only [backA]
    exact back_len
  | .n _ :: as, [], _, _ => by simp [backA]
  | .n _ :: as, _ :: _, [], _ => by simp [backA]
  | .n i :: as, d :: ds, f :: fs, env => by
    simp only [backA]
    have := back_len (as := as) (ds := ds) (fin := fs) (env := env)
    split
    · exact ⟨by simp [Env.put, this.1], this.2⟩
    · exact this
theorem back_un : ∀ {as : List Arg} {ds fin : List D} {env : Env} {i : Nat}, namesA as i = false → (backA as ds fin env).s[i]? = env.s[i]?
  | [], _, _, _, _, _ => by simp [backA]
  | .v _ :: as, [], _, _, _, _ => by simp [backA]
  | .v _ :: as, _ :: _, [], _, _, _ => by simp [backA]
  | .v _ :: as, _ :: ds, _ :: fs, env, i, h => by
    simp only [backA]
    exact back_un (by simpa [namesA] using h)
  | .n _ :: as, [], _, _, _, _ => by simp [backA]
  | .n _ :: as, _ :: _, [], _, _, _ => by simp [backA]
  | .n j :: as, d :: ds, f :: fs, env, i, h => by
    simp only [namesA, Bool.or_eq_false_iff, beq_eq_false_iff_ne, ne_eq] at h
    simp only [backA]
    have q := back_un (as := as) (ds := ds) (fin := fs) (env := env) h.2
    split
    · rw [Env.put, List.getElem?_set_ne (Ne.symm h.1)]
      exact q
    · exact q
/-- what a call leaves alone -/
theorem SR.frame {τ : L2.St} {Gs Gs' : Nat → List Addr} {ed ed' : Env} (S : SR K mg Z H σ env Fs) (C : SR K mg Z H τ ed Gs) (t : Tr T Z H ed Gs Z' H' ed' Gs') (ap : ∀ i, ∀ a ∈ Fs i, ∀ j, a ∉ Gs j) (zs : ∀ a, Z' a → ∃ o, H' a = some o) : SR K mg Z' H' σ env Fs :=
  ⟨S.len, fun i d e => by
    obtain ⟨v, h1, h2⟩ := S.rep i d e
    exact ⟨v, h1, h2.stay (t.stay C) fun a ha => by
      obtain ⟨o, e⟩ := S.tr ha
      rw [e]
      exact t.keep a o e (ap i a ha)⟩, S.no, S.nd, S.dj, (fun i a ha z => by
    rcases t.zn a z with q | ⟨j, q⟩ | q
    · exact S.zf i a ha q
    · exact ap i a ha j q
    · obtain ⟨o, e⟩ := S.tr ha
      rw [q] at e; cases e), zs⟩
/-- the names among the arguments hold these values -/
def AVs (σ : L2.St) : List Arg → List V → Prop
  | [], vs => vs = []
  | .v _ :: as, vs => ∃ v r, vs = v :: r ∧ AVs σ as r
  | .n i :: as, vs => ∃ v r, vs = v :: r ∧ σ[i]? = some (some v) ∧ AVs σ as r
theorem AReps.avs : ∀ {as : List Arg} {vs : List V} {F : List Addr}, AReps K mg Z H σ as vs F → AVs σ as vs
  | [], _, _, h => by
    simp only [AReps] at h
    exact h.1
  | .v d :: as, vs, F, h => by
    simp only [AReps] at h
    obtain ⟨v, r, F1, F2, e, a, b, f⟩ := h
    exact ⟨v, r, e, b.avs⟩
  | .n i :: as, vs, F, h => by
    simp only [AReps] at h
    obtain ⟨v, r, e, a, b⟩ := h
    exact ⟨v, r, e, a, b.avs⟩
/-- the values are put back -/
theorem back_ok : ∀ {as : List Arg} {ds fin : List D} {vs : List V} {G : Nat → List Addr}, AVs σ as vs → SR K mg Z H (vs.map some) (envOf fin) G → SR K mg Z H σ env Fs → (∀ m, ∀ a ∈ G m, ∀ i, a ∉ Fs i) →
    ∃ Fs2, SR K mg Z H σ (backA as ds fin env) Fs2 ∧ (∀ j, ∀ a ∈ Fs2 j, a ∈ Fs j ∨ ∃ m, a ∈ G m) ∧ ∀ j, namesA as j = false → Fs2 j = Fs j
  | [], _, _, _, _, _, _, S, _ => ⟨Fs, by simpa [backA] using S, fun _ _ h => .inl h, fun _ _ => rfl⟩
  | .v _ :: as, [], _, _, _, _, _, S, _ => ⟨Fs, by simpa [backA] using S, fun _ _ h => .inl h, fun _ _ => rfl⟩
  | .v _ :: as, _ :: _, [], _, _, _, _, S, _ => ⟨Fs, by simpa [backA] using S, fun _ _ h => .inl h, fun _ _ => rfl⟩
  | .n _ :: as, [], _, _, _, _, _, S, _ => ⟨Fs, by simpa [backA] using S, fun _ _ h => .inl h, fun _ _ => rfl⟩
  | .n _ :: as, _ :: _, [], _, _, _, _, S, _ => ⟨Fs, by simpa [backA] using S, fun _ _ h => .inl h, fun _ _ => rfl⟩
  | .v d :: as, _ :: ds, f :: fs, vs, G, h, C, S, ap => by
    obtain ⟨v, r, rfl, h⟩ := h
    have C' : SR K mg Z H (r.map some) (envOf fs) (fun m => G (m + 1)) :=
      ⟨by simpa [envOf] using C.len, fun i d e => C.rep (i + 1) d (by simpa [envOf] using e), fun i q => C.no (i + 1) fun d z => q d (by simpa [envOf] using z), fun i => C.nd (i + 1), fun i j ne => C.dj (i + 1) (j + 1) (by omega), fun i => C.zf (i + 1), C.zs⟩
    obtain ⟨Fs2, S2, B2, U2⟩ := back_ok (ds := ds) h C' S fun m a ha => ap (m + 1) a ha
    exact ⟨Fs2, by simpa [backA] using S2, fun j a ha => (B2 j a ha).elim .inl fun ⟨m, q⟩ => .inr ⟨m + 1, q⟩, fun j hj => U2 j (by simpa [namesA] using hj)⟩
  | .n i :: as, d :: ds, f :: fs, vs, G, h, C, S, ap => by
    obtain ⟨v, r, rfl, hv, h⟩ := h
    have C' : SR K mg Z H (r.map some) (envOf fs) (fun m => G (m + 1)) :=
      ⟨by simpa [envOf] using C.len, fun i d e => C.rep (i + 1) d (by simpa [envOf] using e), fun i q => C.no (i + 1) fun d z => q d (by simpa [envOf] using z), fun i => C.nd (i + 1), fun i j ne => C.dj (i + 1) (j + 1) (by omega), fun i => C.zf (i + 1), C.zs⟩
    obtain ⟨Fs2, S2, B2, U2⟩ := back_ok (ds := ds) h C' S fun m a ha => ap (m + 1) a ha
    by_cases ho : d.own = true
    · obtain ⟨v', e1, r1⟩ := C.rep 0 f (by simp [envOf])
      have e1 : v = v' := by simpa using e1
      subst e1
      have hi : i < (backA as ds fs env).s.length := by
        rw [S2.len]
        exact (List.getElem?_eq_some_iff.mp hv).1
      refine ⟨fset Fs2 i (G 0), ?_, fun j a ha => ?_, fun j hj => ?_⟩
      · simp only [backA, ho, if_true]
        refine S2.put hi rfl hv (fun _ _ => rfl) r1 (C.nd 0) fun a ha => ⟨fun j _ q => ?_, C.zf 0 a ha⟩
        rcases B2 j a q with q | ⟨m, q⟩
        · exact ap 0 a ha j q
        · exact C.dj 0 (m + 1) (by omega) a ha q
      · by_cases hj : j = i
        · subst hj; rw [fset_self] at ha; exact .inr ⟨0, ha⟩
        · rw [fset_ne hj] at ha
          exact (B2 j a ha).elim .inl fun ⟨m, q⟩ => .inr ⟨m + 1, q⟩
      · simp only [namesA, Bool.or_eq_false_iff, beq_eq_false_iff_ne, ne_eq] at hj
        rw [fset_ne hj.1]
        exact U2 j hj.2
    · refine ⟨Fs2, by simpa [backA, ho] using S2, fun j a ha => (B2 j a ha).elim .inl fun ⟨m, q⟩ => .inr ⟨m + 1, q⟩, fun j hj => ?_⟩
      simp only [namesA, Bool.or_eq_false_iff] at hj
      exact U2 j hj.2
/-- the whole of a call: from the state behind the arguments to that behind the call -/
theorem call_back {as : List Arg} {vs : List V} {ds fin : List D} {F : List Addr} {e1 : Env} {L : List (List Addr)} {G : Nat → List Addr} (S : SR K mg Z H σ env Fs) (r : AReps K mg Z H σ as vs F) (S1 : SR K mg Z H σ e1 Fs1) (A : ARs K mg Z H ds vs L) (N : L.flatten.Nodup)
    (P : ∀ a ∈ L.flatten, (∀ i, a ∉ Fs1 i) ∧ ¬ Z a ∧ (a ∈ F ∨ ∃ i, a ∈ Fs i)) (U : ∀ i, namesA as i = false → e1.s[i]? = env.s[i]? ∧ Fs1 i = Fs i) (B : ∀ i, ∀ a ∈ Fs1 i, a ∈ Fs i) (pp : e1.p = env.p) (oo : ∀ i, Fs1 i = Fs i ∨ Fs1 i = [])
    (tk : takeA as env = some (ds, e1)) (C : SR K mg Z' H' (vs.map some) (envOf fin) G) (t : Tr (fun _ => true) Z H (envOf ds) (lget L) Z' H' (envOf fin) G) (FF : ∀ a ∈ F, ∀ i, a ∉ Fs i) :
    ∃ Fs2, SR K mg Z' H' σ (backA as ds fin e1) Fs2 ∧ (∀ j, ∀ a ∈ Fs2 j, a ∈ Fs1 j ∨ ∃ m, a ∈ G m) ∧ (∀ i, namesA as i = false → (backA as ds fin e1).s[i]? = env.s[i]? ∧ Fs2 i = Fs i ∧ ∀ a ∈ Fs i, H' a = H a) ∧ (backA as ds fin e1).p = env.p := by
  have Cs := A.sr N (fun a ha => (P a ha).2.1) S.zs
  have S1' := S1.frame Cs t (fun i a ha j q => (P a (mem_lget q)).1 i ha) C.zs
  obtain ⟨Fs2, S2, B2, U2⟩ := back_ok (ds := ds) r.avs C S1' fun m a ha i q => by
    rcases t.new m a ha with ⟨j, z⟩ | z
    · exact (P a (mem_lget z)).1 i q
    · obtain ⟨o, e⟩ := S1.tr q
      rw [z] at e; cases e
  refine ⟨Fs2, S2, B2, fun i hi => ⟨(back_un hi).trans (U i hi).1, (U2 i hi).trans (U i hi).2, fun a ha => ?_⟩, back_len.2.trans pp⟩
  rw [← (U i hi).2] at ha
  obtain ⟨o, e⟩ := S1.tr ha
  rw [e]
  exact t.keep a o e fun j q => (P a (mem_lget q)).1 i ha
end

section
variable {X : Cx} {e : Expr} {es : List Expr} {g : M (List Arg)} {T : Nat → Bool} {x : Str} {p pos : Pos} {φ : List D → CRes} {k np : Nat} {fa : Addr} {fd : FuncData} {ps : List Str}
/-- the reading of a call's arguments, from that of the call -/
theorem tE_call {W : WX} {σ : L2.St} {H : Hp} {Q : VK} (nm : ∀ env as e', g env = .ok as e' → ∀ j, T j = false → namesA as j = false) (ln : ∀ env as e', g env = .ok as e' → as.length = np)
    (h : tE X.K X.mg (callM φ g) T none W σ H Q) : tG X.K X.mg g T W σ H fun vs H1 => spOf X.K X.mg np φ vs H1 Q (WE W σ) := by
  obtain ⟨Z, env, Fs, S, c⟩ := h
  refine ⟨Z, env, Fs, S, ?_⟩
  unfold callM bnd at c
  cases q : g env with
  | err => rw [q] at c; exact c.elim
  | exc x fs e1 => rw [q] at c; exact c
  | ok as ea =>
    rw [q] at c
    dsimp only at c
    intro vs H1 Z1 FsA F SA tA r pF
    cases tk : takeA as ea with
    | none => rw [tk] at c; exact c.elim
    | some pr =>
      obtain ⟨ds, e1⟩ := pr
      rw [tk] at c
      dsimp only at c
      obtain ⟨L, Fs1, S1, A, N, P, U, B, pp, ll, oo⟩ := take_ok SA r pF.1 (fun a ha => ⟨(pF.2 a ha).1, (pF.2 a ha).2.1⟩) tk
      have Cs := A.sr N (fun a ha => (P a ha).2.1) SA.zs
      have hlen : vs.length = np := by
        have : ∀ {as : List Arg} {vs : List V} {F : List Addr}, AReps X.K X.mg Z1 H1 σ as vs F → vs.length = as.length := by
          intro as
          induction as with
          | nil => intro vs F h; simp only [AReps] at h; simp [h.1]
          | cons a as ih =>
            intro vs F h
            cases a with
            | v d =>
              simp only [AReps] at h
              obtain ⟨v, r, F1, F2, e, a, b, f⟩ := h
              rw [e, List.length_cons, List.length_cons, ih b]
            | n i =>
              simp only [AReps] at h
              obtain ⟨v, r, e, a, b⟩ := h
              rw [e, List.length_cons, List.length_cons, ih b]
        rw [this r, ln _ _ _ q]
      -- where a thing that comes out of the call was
      have org : ∀ {Z' : Addr → Prop} {H' : Hp} {fin : List D} {G : Nat → List Addr} (t : Tr (fun _ => true) Z1 H1 (envOf ds) (lget L) Z' H' (envOf fin) G) (a : Addr), ((∃ j, a ∈ lget L j) ∨ H1 a = none) → (∃ j, a ∈ Fs j) ∨ H a = none := fun t a h => by
        rcases h with ⟨j, h⟩ | h
        · rcases (P a (mem_lget h)).2.2 with z | ⟨i, z⟩
          · exact (pF.2 a z).2.2
          · exact tA.new i a z
        · exact .inr (tA.gr a h)
      have stp : ∀ {Z' : Addr → Prop} {H' : Hp} {fin : List D} {G : Nat → List Addr} (C : SR X.K X.mg Z' H' (vs.map some) (envOf fin) G) (t : Tr (fun _ => true) Z1 H1 (envOf ds) (lget L) Z' H' (envOf fin) G),
          ∃ Fs2, SR X.K X.mg Z' H' σ (backA as ds fin e1) Fs2 ∧ Tr T Z H env Fs Z' H' (backA as ds fin e1) Fs2 ∧ ∀ j, ∀ a ∈ Fs2 j, a ∈ Fs1 j ∨ ∃ m, a ∈ G m := fun {Z' H' fin G} C t => by
        obtain ⟨Fs2, S2, B2, U2, pp2⟩ := call_back SA r S1 A N P U B pp oo tk C t fun a ha => (pF.2 a ha).1
        refine ⟨Fs2, S2, ⟨fun a z => t.z a (tA.z a z), fun a z => ?_, fun a o e n => ?_, fun a z => tA.gr a (t.gr a z), fun i a ha => ?_, fun i hi => ?_, pp2.trans tA.p⟩, B2⟩
        · rcases t.zn a z with z | z | z
          · exact tA.zn a z
          · exact .inr (org t a (.inl z))
          · exact .inr (org t a (.inr z))
        · refine t.keep a o (tA.keep a o e n) fun i z => ?_
          rcases (P a (mem_lget z)).2.2 with z | ⟨j, z⟩
          · rcases (pF.2 a z).2.2 with ⟨j, z⟩ | z
            · exact n j z
            · rw [z] at e; cases e
          · rcases tA.new j a z with ⟨j, z⟩ | z
            · exact n j z
            · rw [z] at e; cases e
        · rcases B2 i a ha with z | ⟨m, z⟩
          · exact tA.new i a (B i a z)
          · exact org t a (t.new m a z)
        · obtain ⟨u1, u2, u3⟩ := U2 i (nm _ _ _ q i hi)
          obtain ⟨w1, w2, w3⟩ := tA.un i hi
          exact ⟨u1.trans w1, u2.trans w2, fun a ha => (u3 a (by rw [w2]; exact ha)).trans (w3 a ha)⟩
      refine ⟨hlen, Z1, ds, lget L, Cs, ?_⟩
      cases qf : φ ds with
      | err => rw [qf] at c; exact c.elim
      | exc cc fs fin =>
        rw [qf] at c
        intro cls dd H' Z' G C t x
        obtain ⟨Fs2, S2, T2, _⟩ := stp C t
        exact c cls dd H' Z' Fs2 S2 T2 x
      | ok d fin =>
        rw [qf] at c
        intro v H' Z' G Fd C t rd pd
        obtain ⟨Fs2, S2, T2, B2⟩ := stp C t
        refine c v H' Z' Fs2 Fd S2 T2 rd ⟨pd.1, fun a ha => ⟨fun i z => ?_, (pd.2 a ha).2.1, org t a (pd.2 a ha).2.2⟩⟩
        rcases B2 i a z with z | ⟨m, z⟩
        · rcases (pd.2 a ha).2.2 with ⟨j, w⟩ | w
          · exact (P a (mem_lget w)).1 i z
          · obtain ⟨o, e⟩ := S1.tr z
            rw [w] at e; cases e
        · exact (pd.2 a ha).1 m z
theorem ve_call (F : FnOk X.prog X.w X.K X.mg X.base (L2.CX X.prog X.w) k fa fd ps (spOf X.K X.mg np φ)) (hr : Room k X.A) (hg : Gl X x) (hm : X.mg x = some (.ref fa)) (hk : PySem.W.keepIn X.K (.ref fa) = true) (hb : Binds X.K fd ps []) (ha : VG X (e :: es) g T) (ln : ∀ env as e', g env = .ok as e' → as.length = np)
    (hdb : (x == ("__debug__" : Str)) = false := by decide) (he : starEach (e :: es) X.env = (false, eval e X.env) :: starEach es X.env := by rfl) (hpl : ∀ pos, (backTo pos (starEach es X.env)).any (·.1) = false := by intro _; rfl) :
    VE X (.Call (.Name x p) (e :: es) [] pos) (callM φ g) T none :=
  ⟨fun W tk => pe_imp (pe_callS (E := WE W) F hr hg hm hk hb (fun σ => passAt tk σ) (ha.run W tk) hdb he (hpl pos)) fun σ H Q h => tE_call ha.nm ln h⟩
end
end VI
/-! V7: statements -/
namespace VI
open PySem PySem.Spec L2

/-- how a statement ends -/
inductive Fl where
  | nx | rt (d : D) | bk | ct
def Pin (p : List Bool) (σ σ' : L2.St) : Prop := ∀ i : Nat, p[i]? = some true → σ'[i]? = σ[i]?
theorem Pin.refl {p : List Bool} {σ : L2.St} : Pin p σ σ := fun _ _ => rfl
theorem Pin.trans {p : List Bool} {σ σ1 σ2 : L2.St} (a : Pin p σ σ1) (b : Pin p σ1 σ2) : Pin p σ σ2 := fun i h => (b i h).trans (a i h)
def ContS (K : PySem.W.Frag) (mg : Mg) (T : Nat → Bool) (W : WX) (D : Ends) (σ : L2.St) (Z : Addr → Prop) (H : Hp) (env : Env) (Fs : Nat → List Addr) : Out Fl → Prop
  | .ok (.rt d) e' => ∀ v σ' H' Z' Fs' Fd, SR K mg Z' H' σ' e' Fs' → Tr T Z H env Fs Z' H' e' Fs' → Pin env.p σ σ' → Rep K mg Z' H' d v Fd → VP none Z H Fs Z' H' Fs' Fd → D.rt v H'
  | .ok .nx e' => ∀ σ' H' Z' Fs', SR K mg Z' H' σ' e' Fs' → Tr T Z H env Fs Z' H' e' Fs' → Pin env.p σ σ' → D.nx σ' H'
  | .ok .bk e' => ∀ σ' H' Z' Fs', SR K mg Z' H' σ' e' Fs' → Tr T Z H env Fs Z' H' e' Fs' → Pin env.p σ σ' → D.bk σ' H'
  | .ok .ct e' => ∀ σ' H' Z' Fs', SR K mg Z' H' σ' e' Fs' → Tr T Z H env Fs Z' H' e' Fs' → Pin env.p σ σ' → D.ct σ' H'
  | .exc c fs e' => ∀ cls dd σ' H' Z' Fs', SR K mg Z' H' σ' e' Fs' → Tr T Z H env Fs Z' H' e' Fs' → Pin env.p σ σ' → XAt K mg Z' H' c fs cls dd → W cls dd σ' H'
  | .err => False
def tS (K : PySem.W.Frag) (mg : Mg) (f : M Fl) (T : Nat → Bool) (W : WX) : TS := fun D σ H => ∃ Z env Fs, SR K mg Z H σ env Fs ∧ ContS K mg T W D σ Z H env Fs (f env)
structure VS (X : Cx) (st : Stmt) (f : M Fl) (T : Nat → Bool) : Prop where
  run : ∀ W, Takes X W → PS X st (tS X.K X.mg f T W)
structure VSs (X : Cx) (st : List Stmt) (f : M Fl) (T : Nat → Bool) : Prop where
  run : ∀ W, Takes X W → PSs X st (tS X.K X.mg f T W)
theorem ps_imp {X : Cx} {st : Stmt} {t t' : TS} (h : PS X st t) (q : ∀ D σ H, t' D σ H → t D σ H) : PS X st t' := ⟨fun pins s σ H D I w => h.run pins s σ H D I (q D σ H w)⟩
theorem pss_imp {X : Cx} {st : List Stmt} {t t' : TS} (h : PSs X st t) (q : ∀ D σ H, t' D σ H → t D σ H) : PSs X st t' := ⟨fun pins s σ H D I w => h.run pins s σ H D I (q D σ H w)⟩

section
variable {K : PySem.W.Frag} {mg : Mg} {Z Z' Z1 Z2 : Addr → Prop} {H H' H1 H2 : Hp} {σ σ1 : L2.St} {env env' env1 env2 : Env} {Fs Fs' Fs1 Fs2 : Nat → List Addr} {T T' T1 T2 : Nat → Bool} {W : WX} {D0 : Ends}
theorem ContS.step {o : Out Fl} (c : ContS K mg T W D0 σ Z H env Fs o) (t : Tr T1 Z H env Fs Z1 H1 env1 Fs1) (h : ∀ i, T i = false → T1 i = false ∧ T2 i = false) (pn : Pin env.p σ σ1) : ContS K mg T2 W D0 σ1 Z1 H1 env1 Fs1 o := by
  have pp := t.p
  cases o with
  | ok d e =>
    cases d with
    | rt d => exact fun v σ' H' Z' Fs' Fd S t2 p2 r p => c v σ' H' Z' Fs' Fd S (t.trans t2 h) (pn.trans (by rw [pp] at p2; exact p2)) r (p.back t)
    | nx => exact fun σ' H' Z' Fs' S t2 p2 => c σ' H' Z' Fs' S (t.trans t2 h) (pn.trans (by rw [pp] at p2; exact p2))
    | bk => exact fun σ' H' Z' Fs' S t2 p2 => c σ' H' Z' Fs' S (t.trans t2 h) (pn.trans (by rw [pp] at p2; exact p2))
    | ct => exact fun σ' H' Z' Fs' S t2 p2 => c σ' H' Z' Fs' S (t.trans t2 h) (pn.trans (by rw [pp] at p2; exact p2))
  | exc x fs e => exact fun cls dd σ' H' Z' Fs' S t2 p2 r => c cls dd σ' H' Z' Fs' S (t.trans t2 h) (pn.trans (by rw [pp] at p2; exact p2)) r
  | err => exact c
theorem ContS.mono {o : Out Fl} (c : ContS K mg T W D0 σ Z H env Fs o) (h : ∀ i, T i = false → T2 i = false) : ContS K mg T2 W D0 σ Z H env Fs o := c.step (T1 := T0) Tr.refl (fun i q => ⟨rfl, h i q⟩) Pin.refl
/-- an exception of an expression is one of the statement -/
theorem ContS.exc {c : Str} {fs : List (Str × D)} {e : Env} (h : ContS K mg T W D0 σ Z H env Fs (.exc c fs e)) (q : ∀ i, T i = false → T1 i = false) {Q : VK} : Cont K mg T1 none W Q σ Z H env Fs (.exc c fs e) :=
  fun cls dd H' Z' Fs' S t r => h cls dd σ H' Z' Fs' S (t.mono q) Pin.refl r
theorem store_ok {d : D} {v : V} {Fd : List Addr} {i : Nat} (S : SR K mg Z H σ env Fs) (hi : i < env.s.length) (r : Rep K mg Z H d v Fd) (nd : Fd.Nodup) (ap : ∀ a ∈ Fd, (∀ j, a ∉ Fs j) ∧ ¬ Z a) : SR K mg Z H (σ.set i (some v)) (env.put i d) (fset Fs i Fd) :=
  S.put hi (by simp) (List.getElem?_set_self (by rw [← S.len]; exact hi)) (fun j hj => List.getElem?_set_ne (Ne.symm hj)) r nd fun a ha => ⟨fun j _ => (ap a ha).1 j, (ap a ha).2⟩
theorem Tr.store {i : Nat} {d : D} {G : List Addr} (t : Tr T1 Z H env Fs Z1 H1 env1 Fs1) (gn : ∀ a ∈ G, (∃ j, a ∈ Fs j) ∨ H a = none) : Tr (tor T1 (T1' i)) Z H env Fs Z1 H1 (env1.put i d) (fset Fs1 i G) where
  z := t.z
  zn := t.zn
  keep := t.keep
  gr := t.gr
  new := fun j a ha => by
    by_cases hj : j = i
    · subst hj; rw [fset_self] at ha; exact gn a ha
    · rw [fset_ne hj] at ha; exact t.new j a ha
  un := fun j hj => by
    obtain ⟨h1, h2⟩ := tor_sub j hj
    have hj' : j ≠ i := by simpa using h2
    obtain ⟨u1, u2, u3⟩ := t.un j h1
    exact ⟨by rw [Env.put, List.getElem?_set_ne (Ne.symm hj')]; exact u1, (fset_ne hj').trans u2, u3⟩
  p := t.p
theorem Pin.set {p : List Bool} {i : Nat} {v : V} (h : p[i]? ≠ some true) : Pin p σ (σ.set i (some v)) := fun j hj => List.getElem?_set_ne (fun e => by subst e; exact h hj)
end

def exprM (f : M D) : M Fl := bnd f fun _ => pur .nx
/-- i = f -/
def asgM (i : Nat) (f : M D) : M Fl := bnd f fun d env => if env.p[i]? = some true then .err else if i < env.s.length then .ok .nx (env.put i d) else .err
def retM (f : M D) : M Fl := bnd f fun d => pur (.rt d)
def seqM (f g : M Fl) : M Fl := bnd f fun d => match d with
  | .nx => g
  | d => pur d
def whileM : Nat → M Bool → M Fl → M Fl
  | 0, _, _ => bad
  | n + 1, fc, fb => bnd fc fun b => if b = true then bnd fb (fun d => match d with
      | .nx => whileM n fc fb
      | .ct => whileM n fc fb
      | .bk => pur .nx
      | .rt d => pur (.rt d)) else pur .nx

section
variable {X : Cx} {e a b c : Expr} {st : Stmt} {sts sts2 : List Stmt} {pos : Pos} {f fa fb : M D} {ga gb gc : M Bool} {fs gs : M Fl} {T Ta Tb Tc Ts Tr' : Nat → Bool} {src sa sb : Option Nat}
theorem vs_expr (he : VE X e f T src) (hs : swapsWith e none pos.line X.env = pure false := by rfl) : VS X (.Expr e pos) (exprM f) T := by
  refine ⟨fun W tk => ps_imp (ps_expr (he.run W tk) hs) fun D σ H ⟨Z, env, Fs, S, c⟩ => ⟨Z, env, Fs, S, ?_⟩⟩
  unfold exprM bnd at c
  cases q : f env with
  | err => rw [q] at c; exact c.elim
  | exc x fs e1 => rw [q] at c; exact fun cls dd H' Z' Fs' S t r => c cls dd σ H' Z' Fs' S t Pin.refl r
  | ok d e1 =>
    rw [q] at c
    exact fun v H' Z' Fs' Fd S' t r p => c σ H' Z' Fs' S' t Pin.refl
theorem vs_asg {i : Nat} {x : Str} {p' : Pos} (hN : X.N.Nodup) (hi : X.N[i]? = some x) (hx : Loc X.env.scope x) (he : VE X e f T none) (hs : swapsWith e (some (.Name x p')) pos.line X.env = pure false := by rfl) (hf : X.fn x = true ∨ X.env.scope.names.lookup x = some .local := by first | exact .inl rfl | exact .inr rfl | assumption) :
    VS X (.Assign [.Name x p'] e pos) (asgM i f) (tor T (T1' i)) := by
  refine ⟨fun W tk => ps_imp (ps_set hN hi hx (he.run W tk) hs hf) fun D σ H ⟨Z, env, Fs, S, c⟩ => ⟨Z, env, Fs, S, ?_⟩⟩
  unfold asgM bnd at c
  cases q : f env with
  | err => rw [q] at c; exact c.elim
  | exc x fs e1 => rw [q] at c; exact fun cls dd H' Z' Fs' S t r => c cls dd σ H' Z' Fs' S (t.mono fun i q => (tor_sub i q).1) Pin.refl r
  | ok d e1 =>
    rw [q] at c
    dsimp only at c
    intro v H1 Z1 Fs1 F1 S1 t1 r1 p1
    split at c
    · exact c.elim
    · rename_i hp
      split at c
      · rename_i hl
        exact c _ H1 Z1 (fset Fs1 i F1) (store_ok S1 hl r1 p1.1 fun a ha => ⟨(p1.2 a ha).1, (p1.2 a ha).2.1⟩) (t1.store fun a ha => (p1.2 a ha).2.2) (Pin.set (by rw [← t1.p]; exact hp))
      · exact c.elim
theorem vs_ret (he : VE X e f T none) : VS X (.Return (some e) pos) (retM f) T := by
  refine ⟨fun W tk => ps_imp (ps_ret (he.run W tk)) fun D σ H ⟨Z, env, Fs, S, c⟩ => ⟨Z, env, Fs, S, ?_⟩⟩
  unfold retM bnd at c
  cases q : f env with
  | err => rw [q] at c; exact c.elim
  | exc x fs e1 => rw [q] at c; exact fun cls dd H' Z' Fs' S t r => c cls dd σ H' Z' Fs' S t Pin.refl r
  | ok d e1 =>
    rw [q] at c
    exact fun v H1 Z1 Fs1 F1 S1 t1 r1 p1 => c v σ H1 Z1 Fs1 F1 S1 t1 Pin.refl r1 p1
theorem vs_retn : VS X (.Return none pos) (pur (.rt .non)) T0 := by
  refine ⟨fun W tk => ps_imp ps_retN fun D σ H ⟨Z, env, Fs, S, c⟩ => ?_⟩
  exact c .non σ H Z Fs [] S Tr.refl Pin.refl (by simp [Rep]) VP.nil
theorem vs_pass : VS X (.Pass pos) (pur .nx) T0 := ⟨fun W tk => ps_imp ps_pass fun D σ H ⟨Z, env, Fs, S, c⟩ => c σ H Z Fs S Tr.refl Pin.refl⟩
theorem vs_break : VS X (.Break pos) (pur .bk) T0 := ⟨fun W tk => ps_imp ps_break fun D σ H ⟨Z, env, Fs, S, c⟩ => c σ H Z Fs S Tr.refl Pin.refl⟩
theorem vs_continue : VS X (.Continue pos) (pur .ct) T0 := ⟨fun W tk => ps_imp ps_continue fun D σ H ⟨Z, env, Fs, S, c⟩ => c σ H Z Fs S Tr.refl Pin.refl⟩
theorem vss_nil : VSs X [] (pur .nx) T0 := ⟨fun W tk => pss_imp pss_nil fun D σ H ⟨Z, env, Fs, S, c⟩ => c σ H Z Fs S Tr.refl Pin.refl⟩
theorem vss_one (h : VS X st fs Ts) : VSs X [st] fs Ts := ⟨fun W tk => pss_one (h.run W tk)⟩
theorem vss_cons (h1 : VS X st fs Ts) (h2 : VSs X sts gs Tr') : VSs X (st :: sts) (seqM fs gs) (tor Ts Tr') := by
  refine ⟨fun W tk => pss_imp (pss_cons (h1.run W tk) (h2.run W tk)) fun D σ H ⟨Z, env, Fs, S, c⟩ => ⟨Z, env, Fs, S, ?_⟩⟩
  unfold seqM bnd at c
  cases q : fs env with
  | err => rw [q] at c; exact c.elim
  | exc x fs e1 => rw [q] at c; exact fun cls dd σ' H' Z' Fs' S t p r => c cls dd σ' H' Z' Fs' S (t.mono fun i q => (tor_sub i q).1) p r
  | ok d e1 =>
    rw [q] at c
    have m : ∀ i, tor Ts Tr' i = false → Ts i = false := fun i q => (tor_sub i q).1
    cases d with
    | rt d => exact fun v σ' H' Z' Fs' Fd S t p r w => c v σ' H' Z' Fs' Fd S (t.mono m) p r w
    | bk => exact fun σ' H' Z' Fs' S t p => c σ' H' Z' Fs' S (t.mono m) p
    | ct => exact fun σ' H' Z' Fs' S t p => c σ' H' Z' Fs' S (t.mono m) p
    | nx => exact fun σ' H' Z' Fs' S t p => ⟨Z', e1, Fs', S, ContS.step c t tor_sub p⟩
theorem vs_if (hc : VT X c gc Tc) (ha : VSs X sts fs Ts) (hb : VSs X sts2 gs Tr') : VS X (.If c sts sts2 pos) (iteM gc fs gs) (tor Tc (tor Ts Tr')) := by
  refine ⟨fun W tk => ps_imp (ps_if (hc.run W tk) (ha.run W tk) (hb.run W tk)) fun D σ H ⟨Z, env, Fs, S, c⟩ => ⟨Z, env, Fs, S, ?_⟩⟩
  unfold iteM bnd at c
  cases q : gc env with
  | err => rw [q] at c; exact c.elim
  | exc x fs e1 =>
    rw [q] at c
    exact fun cls dd H' Z' Fs' S' t r => c cls dd σ H' Z' Fs' S' (t.mono fun i q => (tor_sub i q).1) Pin.refl r
  | ok d e1 =>
    rw [q] at c
    intro H1 Z1 Fs1 S1 t1
    have c := ContS.step (T2 := tor Ts Tr') c t1 tor_sub Pin.refl
    dsimp only at c
    cases d with
    | true => rw [if_pos rfl] at c ⊢; exact ⟨Z1, e1, Fs1, S1, c.mono fun i q => (tor_sub i q).1⟩
    | false => rw [if_neg Bool.false_ne_true] at c ⊢; exact ⟨Z1, e1, Fs1, S1, c.mono fun i q => (tor_sub i q).2⟩
theorem vs_while (n : Nat) (hp : ∀ W, Takes X W → PassesOwn (model X.prog X.w) X.A X.env X.xe) (hc : VT X c gc Tc) (hb : VSs X sts fs Ts) : VS X (.While c sts [] pos) (whileM n gc fs) (tor Tc Ts) := by
  refine ⟨fun W tk => ps_imp (ps_while (hp W tk) (hc.run W tk) (hb.run W tk)) fun D σ H ⟨Z, env, Fs, S, c⟩ => ?_⟩
  refine ⟨fun m σ H => ∃ Z env Fs, SR X.K X.mg Z H σ env Fs ∧ ContS X.K X.mg (tor Tc Ts) W D σ Z H env Fs (whileM m gc fs env), ⟨n, Z, env, Fs, S, c⟩, ?_⟩
  rintro m σ H ⟨Z, env, Fs, S, c⟩
  refine ⟨Z, env, Fs, S, ?_⟩
  cases m with
  | zero => exact c.elim
  | succ m =>
    unfold whileM at c
    unfold bnd at c
    cases q : gc env with
    | err => rw [q] at c; exact c.elim
    | exc x fs e1 =>
      rw [q] at c
      exact fun cls dd H' Z' Fs' S' t r => c cls dd σ H' Z' Fs' S' (t.mono fun i q => (tor_sub i q).1) Pin.refl r
    | ok d e1 =>
      rw [q] at c
      intro H1 Z1 Fs1 S1 t1
      have c := ContS.step (T2 := tor Tc Ts) c t1 (fun i q => ⟨(tor_sub i q).1, q⟩) Pin.refl
      dsimp only at c
      cases d with
      | false =>
        rw [if_neg Bool.false_ne_true] at c ⊢
        exact c σ H1 Z1 Fs1 S1 Tr.refl Pin.refl
      | true =>
        rw [if_pos rfl] at c ⊢
        refine ⟨fun σ' H' => ∃ Z env Fs, SR X.K X.mg Z H' σ' env Fs ∧ ContS X.K X.mg (tor Tc Ts) W D σ' Z H' env Fs (whileM m gc fs env), fun σ' H' h => ⟨m, Nat.lt_succ_self m, h⟩, Z1, e1, Fs1, S1, ?_⟩
        cases q2 : fs e1 with
        | err => rw [q2] at c; exact c.elim
        | exc x fs e2 =>
          rw [q2] at c
          exact fun cls dd σ' H' Z' Fs' S' t p r => c cls dd σ' H' Z' Fs' S' (t.mono fun i q => (tor_sub i q).2) p r
        | ok d e2 =>
          rw [q2] at c
          cases d with
          | rt d => exact fun v σ' H' Z' Fs' Fd S t p r w => c v σ' H' Z' Fs' Fd S (t.mono fun i q => (tor_sub i q).2) p r w
          | bk => exact fun σ' H' Z' Fs' S t p => c σ' H' Z' Fs' S (t.mono fun i q => (tor_sub i q).2) p
          | ct => exact fun σ' H' Z' Fs' S t p => ⟨Z', e2, Fs', S, ContS.step c t (fun i q => ⟨(tor_sub i q).2, q⟩) p⟩
          | nx => exact fun σ' H' Z' Fs' S t p => ⟨Z', e2, Fs', S, ContS.step c t (fun i q => ⟨(tor_sub i q).2, q⟩) p⟩
end
end VI
/-! V8: targets, what is walked, for -/
namespace VI
open PySem PySem.Spec L2

/-! ### targets (of values nothing of which may be changed) -/
def tGt (K : PySem.W.Frag) (mg : Mg) (f : D → M Unit) (T : Nat → Bool) : TG := fun v σ H Q => ∃ Z env Fs d, SR K mg Z H σ env Fs ∧ Rep K mg Z H d v [] ∧
  ∃ env', f d env = .ok () env' ∧ ∀ σ' Fs', SR K mg Z H σ' env' Fs' → Tr T Z H env Fs Z H env' Fs' → Pin env.p σ σ' → (∀ j, T j = false → σ'[j]? = σ[j]?) → σ'.length = σ.length → Q σ' H
def tGts (K : PySem.W.Frag) (mg : Mg) (f : List D → M Unit) (T : Nat → Bool) : TGs := fun vs σ H Q => ∃ Z env Fs ds, SR K mg Z H σ env Fs ∧ Reps K mg Z H ds vs [] ∧
  ∃ env', f ds env = .ok () env' ∧ ∀ σ' Fs', SR K mg Z H σ' env' Fs' → Tr T Z H env Fs Z H env' Fs' → Pin env.p σ σ' → (∀ j, T j = false → σ'[j]? = σ[j]?) → σ'.length = σ.length → Q σ' H
structure VGt (X : Cx) (tg : Expr) (f : D → M Unit) (T : Nat → Bool) : Prop where
  run : PG X tg (tGt X.K X.mg f T)
structure VGts (X : Cx) (tgs : List Expr) (f : List D → M Unit) (T : Nat → Bool) : Prop where
  run : PGs X tgs (tGts X.K X.mg f T)
theorem pg_imp {X : Cx} {tg : Expr} {t t' : TG} (h : PG X tg t) (q : ∀ v σ H Q, t' v σ H Q → t v σ H Q) : PG X tg t' := ⟨fun pins s σ H v u Q I r w => h.run pins s σ H v u Q I r (q v σ H Q w)⟩
theorem pgs_imp {X : Cx} {tg : List Expr} {t t' : TGs} (h : PGs X tg t) (q : ∀ v σ H Q, t' v σ H Q → t v σ H Q) : PGs X tg t' := ⟨fun pins s σ H v u Q I r w => h.run pins s σ H v u Q I r (q v σ H Q w)⟩
def gnM (i : Nat) (d : D) : M Unit := fun env => if env.p[i]? = some true then .err else if i < env.s.length then .ok () (env.put i d) else .err
def gtM (n : Nat) (f : List D → M Unit) (d : D) : M Unit := match d with
  | .tup ds => if ds.length = n then f ds else bad
  | _ => bad
def gnilM (ds : List D) : M Unit := match ds with
  | [] => pur ()
  | _ => bad
def gconsM (f : D → M Unit) (g : List D → M Unit) (ds : List D) : M Unit := match ds with
  | d :: r => bnd (f d) fun _ => g r
  | [] => bad
theorem rep_nil2 {F G : List Addr} (h : [] = F ++ G) : F = [] ∧ G = [] := by
  cases F with
  | nil => exact ⟨rfl, by simpa using h.symm⟩
  | cons a F => simp at h
section
variable {X : Cx} {pos : Pos} {x : Str} {i : Nat} {tg : Expr} {tgs : List Expr} {f : D → M Unit} {g : List D → M Unit} {T Ta Tb : Nat → Bool}
theorem vg_nm (hN : X.N.Nodup) (hi : X.N[i]? = some x) (hx : Loc X.env.scope x) (hf : X.fn x = true ∨ X.env.scope.names.lookup x = some .local := by first | exact .inl rfl | exact .inr rfl | assumption) : VGt X (.Name x pos) (gnM i) (T1' i) := by
  refine ⟨pg_imp (pg_name hN hi hx hf) fun v σ H Q ⟨Z, env, Fs, d, S, r, env', he, c⟩ => ?_⟩
  unfold gnM at he
  split at he
  · cases he
  · rename_i hp
    split at he
    · rename_i hl
      simp only [Out.ok.injEq, true_and] at he
      subst he
      exact c _ (fset Fs i []) (store_ok S hl r List.nodup_nil fun _ h => by simp at h) (Tr.put fun _ h => by simp at h) (Pin.set hp) (fun j hj => List.getElem?_set_ne (Ne.symm (by simpa using hj))) (by simp)
    · cases he
theorem vg_tnil : VGts X [] gnilM T0 := by
  refine ⟨pgs_imp pgs_nil fun vs σ H Q ⟨Z, env, Fs, ds, S, r, env', he, c⟩ => ?_⟩
  cases ds with
  | cons d ds => cases he
  | nil =>
    simp only [Reps] at r
    simp only [gnilM, pur, Out.ok.injEq, true_and] at he
    subst he
    exact ⟨r.1, c σ Fs S Tr.refl Pin.refl (fun _ _ => rfl) rfl⟩
theorem vg_tcons (h1 : VGt X tg f Ta) (h2 : VGts X tgs g Tb) (hs : (assignEach (tg :: tgs) X.env).map (·.2) = assign tg X.env :: (assignEach tgs X.env).map (·.2) := by rfl) : VGts X (tg :: tgs) (gconsM f g) (tor Ta Tb) := by
  refine ⟨pgs_imp (pgs_cons h1.run h2.run hs) fun vs σ H Q ⟨Z, env, Fs, ds, S, r, env', he, c⟩ => ?_⟩
  cases ds with
  | nil => cases he
  | cons d ds =>
    simp only [Reps] at r
    obtain ⟨v, vr, F1, F2, e, a, b, ff⟩ := r
    obtain ⟨e1, e2⟩ := rep_nil2 ff
    subst e1 e2 e
    simp only [gconsM, bnd] at he
    cases q : f d env with
    | err => rw [q] at he; cases he
    | exc c fs e => rw [q] at he; cases he
    | ok u e1 =>
      rw [q] at he
      dsimp only at he
      refine ⟨v, vr, rfl, Z, env, Fs, d, S, a, e1, q, fun σ1 Fs1 S1 t1 p1 o1 l1 => ?_⟩
      refine ⟨Z, e1, Fs1, ds, S1, b, env', he, fun σ2 Fs2 S2 t2 p2 o2 l2 => ?_⟩
      exact c σ2 Fs2 S2 (t1.trans t2 tor_sub) (p1.trans (by rw [← t1.p]; exact p2)) (fun j hj => (o2 j (tor_sub j hj).2).trans (o1 j (tor_sub j hj).1)) (l2.trans l1)
theorem vg_tt {k n : Nat} (hc : X.calm = true) (h : VGts X tgs g T) (hn : (assignEach tgs X.env).length = n := by rfl) (hst : (assignEach tgs X.env).findIdx? (·.1) = none := by rfl) : VGt X (.Tuple tgs k pos) (gtM n g) T := by
  refine ⟨pg_imp (pg_tup hc h.run hn hst) fun v σ H Q ⟨Z, env, Fs, d, S, r, env', he, c⟩ => ?_⟩
  cases d with
  | tup ds =>
    simp only [gtM] at he
    split at he
    · rename_i hl
      simp only [Rep] at r
      obtain ⟨a, vs, e, t, r⟩ := r
      exact ⟨a, vs, e, t.sq, by rw [r.length, hl], Z, env, Fs, ds, S, r, env', he, c⟩
    · cases he
  | _ => cases he
end

/-! ### what is walked -/
/-- J goes through ds; Fd: what has to stay meanwhile -/
def WalkD (K : PySem.W.Frag) (mg : Mg) (J : It) (ds : List D) (Z0 : Addr → Prop) (H0 : Hp) (Fd : List Addr) : Prop :=
  ∃ G Y, Walk J ds.length G Y ∧ (∀ Z H, Stay Z0 Z H0 H → (∀ a ∈ Fd, H a = H0 a) → G H) ∧
    ∀ (i : Nat) d Z H x H', ds[i]? = some d → Stay Z0 Z H0 H → (∀ a ∈ Fd, H a = H0 a) → (∀ a, Z a → ∃ o, H a = some o) → Y i H x H' → ∃ Z', Alloc Z H Z' H' [] ∧ Rep K mg Z' H' d x []
/-- what has to stay is nobody's or some names' -/
def StF (srcs : List Nat) (H' : Hp) (Fs' : Nat → List Addr) (Fd : List Addr) : Prop := ∀ a ∈ Fd, ((∀ i, a ∉ Fs' i) ∧ ∃ o, H' a = some o) ∨ ∃ i ∈ srcs, a ∈ Fs' i
def ContI (K : PySem.W.Frag) (mg : Mg) (T : Nat → Bool) (srcs : List Nat) (W : WX) (R : It → Hp → Prop) (σ : L2.St) (Z : Addr → Prop) (H : Hp) (env : Env) (Fs : Nat → List Addr) : Out (List D) → Prop
  | .ok ds env' => ∀ J H' Z' Fs' Fd, SR K mg Z' H' σ env' Fs' → Tr T Z H env Fs Z' H' env' Fs' → WalkD K mg J ds Z' H' Fd → StF srcs H' Fs' Fd → R J H'
  | .exc c fs env' => ∀ cls dd H' Z' Fs', SR K mg Z' H' σ env' Fs' → Tr T Z H env Fs Z' H' env' Fs' → XAt K mg Z' H' c fs cls dd → W cls dd σ H'
  | .err => False
def tI (K : PySem.W.Frag) (mg : Mg) (f : M (List D)) (T : Nat → Bool) (srcs : List Nat) (W : WX) : TI := fun σ H R => ∃ Z env Fs, SR K mg Z H σ env Fs ∧ ContI K mg T srcs W R σ Z H env Fs (f env)
structure VI (X : Cx) (tg iter : Expr) (f : M (List D)) (T : Nat → Bool) (srcs : List Nat) : Prop where
  run : ∀ W, Takes X W → PI X tg iter (tI X.K X.mg f T srcs W)
theorem pi_imp {X : Cx} {tg iter : Expr} {t t' : TI} (h : PI X tg iter t) (q : ∀ σ H R, t' σ H R → t σ H R) : PI X tg iter t' := ⟨fun pins s σ H R I w => h.run pins s σ H R I (q σ H R w)⟩
section
variable {X : Cx} {tg e a b : Expr} {pos p : Pos} {f fa fb : M D} {T Ta Tb : Nat → Bool} {src sa sb : Option Nat}
/-- a list, a tuple, a text -/
def iAny (K : PySem.W.Frag) (tl : TE) : TI := fun σ H R => tl σ H fun x H1 => (∃ a, x = .ref a ∧ (∃ xs, SqL K H1 a xs) ∧ R (Itl K a) H1) ∨ (∃ a, x = .ref a ∧ (∃ xs, SqT K H1 a xs) ∧ R (Itt K a) H1) ∨ ∃ z, x = .str z ∧ R (Its z) H1
theorem pi_any {l : Expr} {tl : TE} (hl : PE X l tl) : PI X tg l (iAny X.K tl) := by
  refine ⟨fun pins s σ H R I h => thn (hl.run pins s σ H _ I h) fun v s1 ⟨x, H1, I1, r1, q1⟩ => ?_⟩
  have fr : ∀ b ∈ [s1.heap.objs.size], FpOk X pins H1 b := fun b hb => by
    obtain rfl : b = s1.heap.objs.size := by simpa using hb
    exact I1.fpOk (Nat.le_refl _) (I1.hok.fresh (Nat.le_refl _))
  have kk : ∀ (ob : Obj), Inv X pins σ H1 { s1 with heap := s1.heap.push ob } := fun ob => I1.kept (t' := s1.toks) fun b o e => Heap.get?_push_of_some _ e
  rcases q1 with ⟨a, e, ⟨xs, hq⟩, q⟩ | ⟨a, e, ⟨xs, hq⟩, q⟩ | ⟨z, e, q⟩
  · subst e
    cases r1
    obtain ⟨its, rv, pl, hz⟩ := I1.list hq
    exact wpAny_pyIter_list pl.isList ⟨_, [s1.heap.objs.size], _, _, H1, rfl, kk _, turn_list a _, ⟨_, Heap.get?_push_size _ rfl, rfl, rfl⟩, fr, q⟩
  · subst e
    cases r1
    obtain ⟨its, rv, pl, hz⟩ := I1.tuple hq
    exact wpAny_pyIter_tuple (show s1.heap.IsTuple a its.toArray from pl) ⟨_, [s1.heap.objs.size], _, _, H1, rfl, kk _, turn_tuple a _, ⟨_, Heap.get?_push_size _ rfl, rfl, rfl⟩, fr, q⟩
  · subst e
    obtain ⟨t, rfl⟩ := r1
    cases ha : z.cps.all (· < 128)
    · exact wpAny_pyIter_wide ha (pi_one (tk := s1.toks) I1 _ (turn_str _ z t "str_iterator" (.inr rfl)) ⟨_, Heap.get?_push_size _ rfl, rfl, rfl⟩ q)
    · exact wpAny_pyIter_ascii ha (pi_one (tk := s1.toks) I1 _ (turn_str _ z t "str_ascii_iterator" (.inl rfl)) ⟨_, Heap.get?_push_size _ rfl, rfl, rfl⟩ q)
/-- the items of what is walked -/
def itemsD : D → Option (List D)
  | .tup xs => if D.owns xs then none else some xs
  | .lst _ xs => if D.owns xs then none else some xs
  | .str z => some (z.cps.toList.map fun c => .str ⟨#[c]⟩)
  | _ => none
def seqI (f : M D) : M (List D) := bnd f fun d => ofO (itemsD d)
theorem Reps.item {K : PySem.W.Frag} {mg : Mg} {Z : Addr → Prop} {H : Hp} {xs : List D} {vs : List V} {F : List Addr} {i : Nat} {d : D} {v : V} (r : Reps K mg Z H xs vs F) (o : D.owns xs = false) (h : xs[i]? = some d) (hv : vs[i]? = some v) : Rep K mg Z H d v [] := by
  obtain ⟨u, G, h1, h2, h3, _⟩ := r.get h
  rw [hv] at h1
  cases h1
  have e := r.unown o
  subst e
  have : G = [] := by
    cases G with
    | nil => rfl
    | cons a G => exact absurd (h3 a (by simp)) (by simp)
  rw [this] at h2
  exact h2
theorem walkD_list {K : PySem.W.Frag} {mg : Mg} {Z0 : Addr → Prop} {H0 : Hp} {p : Addr} {xs : List D} {vs : List V} {G Fd : List Addr} (r : Reps K mg Z0 H0 xs vs G) (o : D.owns xs = false) (q : ∀ Z H, Stay Z0 Z H0 H → (∀ a ∈ Fd, H a = H0 a) → SqL K H p vs) : WalkD K mg (Itl K p) xs Z0 H0 Fd := by
  have e := r.unown o
  subst e
  refine ⟨fun H => SqL K H p vs, YAt vs, by rw [← r.length]; exact walk_list, q, fun i d Z H x H' hd st hF zs y => ?_⟩
  obtain ⟨rfl, hx⟩ := y
  exact ⟨Z, Alloc.refl zs, (r.item o hd hx).stay st fun _ h => by simp at h⟩
theorem walkD_tup {K : PySem.W.Frag} {mg : Mg} {Z0 : Addr → Prop} {H0 : Hp} {p : Addr} {xs : List D} {vs : List V} {G Fd : List Addr} (r : Reps K mg Z0 H0 xs vs G) (o : D.owns xs = false) (q : ∀ Z H, Stay Z0 Z H0 H → (∀ a ∈ Fd, H a = H0 a) → SqT K H p vs) : WalkD K mg (Itt K p) xs Z0 H0 Fd := by
  have e := r.unown o
  subst e
  refine ⟨fun H => SqT K H p vs, YAt vs, by rw [← r.length]; exact walk_tup, q, fun i d Z H x H' hd st hF zs y => ?_⟩
  obtain ⟨rfl, hx⟩ := y
  exact ⟨Z, Alloc.refl zs, (r.item o hd hx).stay st fun _ h => by simp at h⟩
theorem VP.stF {Z Z' : Addr → Prop} {H H' : Hp} {Fs Fs' : Nat → List Addr} {Fd G : List Addr} (p : VP src Z H Fs Z' H' Fs' Fd) (th : ∀ a ∈ Fd, ∃ o, H' a = some o) (sub : ∀ a ∈ G, a ∈ Fd) : StF src.toList H' Fs' G := fun a ha => by
  cases src with
  | none => exact .inl ⟨(p.2 a (sub a ha)).1, th a (sub a ha)⟩
  | some i => exact .inr ⟨i, by simp, p.2 a (sub a ha)⟩
theorem vi_seq (he : VE X e f T src) : VI X tg e (seqI f) T src.toList := by
  refine ⟨fun W tk => pi_imp (pi_any (he.run W tk)) fun σ H R ⟨Z, env, Fs, S, c⟩ => ⟨Z, env, Fs, S, ?_⟩⟩
  unfold seqI bnd at c
  cases q : f env with
  | err => rw [q] at c; exact c.elim
  | exc x fs e1 => rw [q] at c; exact c
  | ok d e1 =>
    rw [q] at c
    intro v H1 Z1 Fs1 F1 S1 t1 r1 p1
    dsimp only at c
    cases qi : itemsD d with
    | none => rw [qi] at c; exact c.elim
    | some ds =>
      rw [qi] at c
      cases d with
      | tup xs =>
        simp only [itemsD] at qi
        split at qi
        · cases qi
        · rename_i ho
          cases qi
          simp only [Rep] at r1
          obtain ⟨a, vs, e, t, r⟩ := r1
          refine .inr (.inl ⟨a, e, ⟨vs, t.sq⟩, c (Itt X.K a) H1 Z1 Fs1 [] S1 t1 (walkD_tup r (by simpa using ho) fun Z H st _ => (t.stay st).sq) fun _ h => by simp at h⟩)
      | lst o xs =>
        simp only [itemsD] at qi
        split at qi
        · cases qi
        · rename_i ho
          cases qi
          cases o with
          | false =>
            simp only [Rep] at r1
            obtain ⟨a, vs, e, t, r, _⟩ := r1
            exact .inl ⟨a, e, ⟨vs, t.sq⟩, c (Itl X.K a) H1 Z1 Fs1 [] S1 t1 (walkD_list r (by simpa using ho) fun Z H st _ => (t.stay st).sq) fun _ h => by simp at h⟩
          | true =>
            have th := r1.there
            simp only [Rep] at r1
            obtain ⟨a, vs, G, e, t, r, ff⟩ := r1
            subst ff
            exact .inl ⟨a, e, ⟨vs, SqL.of t⟩, c (Itl X.K a) H1 Z1 Fs1 [a] S1 t1 (walkD_list r (by simpa using ho) fun Z H st k => SqL.of ((k a (by simp)).trans t)) (p1.stF th fun b hb => by simp at hb; simp [hb])⟩
      | str z =>
        simp only [itemsD, Option.some.injEq] at qi
        subst qi
        simp only [Rep] at r1
        refine .inr (.inr ⟨z, r1.1, c (Its z) H1 Z1 Fs1 [] S1 t1 ⟨fun _ => True, fun i H v H' => H' = H ∧ ∃ c, z.cps[i]? = some c ∧ v = .str ⟨#[c]⟩, by simpa using walk_str, fun _ _ _ _ => trivial, fun i d Z H x H' hd st hF zs y => ?_⟩ fun _ h => by simp at h⟩)
        obtain ⟨rfl, cc, h1, h2⟩ := y
        refine ⟨Z, Alloc.refl zs, ?_⟩
        simp only [List.getElem?_map, Array.getElem?_toList, h1, Option.map_some, Option.some.injEq] at hd
        rw [← hd, h2]
        simp [Rep]
      | _ => cases qi
end
end VI
/-! V9: range, enumerate, zip; for -/
namespace VI
open PySem PySem.Spec L2

def small62 (i : Int) : Bool := decide (-(2 ^ 62) ≤ i) && decide (i < 2 ^ 62)
def rangeD (lo hi : Int) : List D := (List.range (hi - lo).toNat).map fun (k : Nat) => .int (lo + k)
def range1I (fa : M D) : M (List D) := bnd fa fun d => match d with
  | .int j => if small62 j = true then pur (rangeD 0 j) else bad
  | _ => bad
def range2I (fa fb : M D) : M (List D) := bnd fa fun d => bnd fb fun d2 => match d, d2 with
  | .int i, .int j => if (small62 i && small62 j) = true then pur (rangeD i j) else bad
  | _, _ => bad
def enumD (n : Nat) : List D → List D
  | [] => []
  | d :: ds => .tup [.int (n : Nat), d] :: enumD (n + 1) ds
def enumI (f : M D) : M (List D) := bnd f fun d => match d with
  | .lst _ xs => if D.owns xs then bad else pur (enumD 0 xs)
  | _ => bad
def zipD : List D → List D → List D
  | x :: xs, y :: ys => .tup [x, y] :: zipD xs ys
  | _, _ => []
def zipI (k : Bool) (fa fb : M D) : M (List D) := bnd fa fun d => if k || !d.own then bnd fb fun d2 => (match d, d2 with
  | .lst _ xs, .lst _ ys => if D.owns xs || D.owns ys then bad else pur (zipD xs ys)
  | .tup xs, .tup ys => if D.owns xs || D.owns ys then bad else pur (zipD xs ys)
  | _, _ => bad) else bad
section
variable {X : Cx} {tg e a b : Expr} {pos p : Pos} {f fa fb : M D} {T Ta Tb : Nat → Bool} {src sa sb : Option Nat}
theorem small62_iff {i : Int} (h : small62 i = true) : -(2 ^ 62) ≤ i ∧ i < 2 ^ 62 := by
  unfold small62 at h
  simpa using h
theorem walkD_range {K : PySem.W.Frag} {mg : Mg} {Z0 : Addr → Prop} {H0 : Hp} {lo hi : Int} : WalkD K mg (Itr lo (hi - lo).toNat) (rangeD lo hi) Z0 H0 [] := by
  refine ⟨fun _ => True, YFn fun i => .int (lo + i), by simpa [rangeD] using walk_range, fun _ _ _ _ => trivial, fun i d Z H x H' hd st hF zs y => ?_⟩
  obtain ⟨rfl, hx⟩ := y
  refine ⟨Z, Alloc.refl zs, ?_⟩
  simp only [rangeD, List.getElem?_map] at hd
  cases q : (List.range (hi - lo).toNat)[i]? with
  | none => rw [q] at hd; cases hd
  | some k =>
    rw [q] at hd
    have ek : k = i := by
      have := List.getElem?_eq_some_iff.mp q
      obtain ⟨h1, h2⟩ := this
      simpa using h2.symm
    subst ek
    simp only [Option.map_some, Option.some.injEq] at hd
    rw [← hd, hx]
    simp [Rep]
theorem vi_range1 (hg : Gl X "range") (hm : X.mg "range" = none) (ha : VE X a fa Ta sa) (hs : starEach [a] X.env = [(false, eval a X.env)] := by rfl) : VI X tg (.Call (.Name "range" p) [a] [] pos) (range1I fa) Ta [] := by
  refine ⟨fun W tk => pi_imp (pi_range1 hg hm (pa_cons (ha.run W tk) pa_nil hs) hs) fun σ H R ⟨Z, env, Fs, S, c⟩ => ⟨Z, env, Fs, S, ?_⟩⟩
  unfold range1I bnd at c
  cases q : fa env with
  | err => rw [q] at c; exact c.elim
  | exc x fs e1 => rw [q] at c; exact c
  | ok d e1 =>
    rw [q] at c
    intro v H1 Z1 Fs1 F1 S1 t1 r1 p1
    cases d <;> first | exact c.elim | skip
    rename_i j
    simp only [Rep] at r1
    dsimp only at c
    split at c
    · rename_i hj
      obtain ⟨h1, h2⟩ := small62_iff hj
      refine ⟨j, by rw [r1.1], h1, h2, ?_⟩
      have := c (Itr 0 (j - 0).toNat) H1 Z1 Fs1 [] S1 t1 walkD_range fun _ h => by simp at h
      simpa using this
    · exact c.elim
theorem vi_range2 (hg : Gl X "range") (hm : X.mg "range" = none) (ha : VE X a fa Ta sa) (hb : VE X b fb Tb sb) (hs : starEach [a, b] X.env = [(false, eval a X.env), (false, eval b X.env)] := by rfl) (hs2 : starEach [b] X.env = [(false, eval b X.env)] := by rfl) :
    VI X tg (.Call (.Name "range" p) [a, b] [] pos) (range2I fa fb) (tor Ta Tb) [] := by
  refine ⟨fun W tk => pi_imp (pi_range2 hg hm (pa_cons (ha.run W tk) (pa_cons (hb.run W tk) pa_nil hs2) (by rw [hs, hs2])) hs hs2) fun σ H R ⟨Z, env, Fs, S, c⟩ => ⟨Z, env, Fs, S, ?_⟩⟩
  unfold range2I bnd at c
  cases q : fa env with
  | err => rw [q] at c; exact c.elim
  | exc x fs e1 => rw [q] at c; exact fun cls dd H' Z' Fs' S' t r => c cls dd H' Z' Fs' S' (t.mono fun i q => (tor_sub i q).1) r
  | ok d e1 =>
    rw [q] at c
    intro v H1 Z1 Fs1 F1 S1 t1 r1 p1
    refine ⟨Z1, e1, Fs1, S1, ?_⟩
    dsimp only at c
    cases q2 : fb e1 with
    | err => rw [q2] at c; exact c.elim
    | exc x fs e2 => rw [q2] at c; exact fun cls dd H' Z' Fs' S' t r => c cls dd H' Z' Fs' S' (t1.trans t tor_sub) r
    | ok d2 e2 =>
      rw [q2] at c
      intro v2 H2 Z2 Fs2 F2 S2 t2 r2 p2
      cases d <;> first | exact c.elim | skip
      cases d2 <;> first | exact c.elim | skip
      rename_i i j
      simp only [Rep] at r1 r2
      dsimp only at c
      split at c
      · rename_i hj
        simp only [Bool.and_eq_true] at hj
        obtain ⟨h1, h2⟩ := small62_iff hj.1
        obtain ⟨h3, h4⟩ := small62_iff hj.2
        exact ⟨i, j, by rw [r1.1, r2.1], ⟨h1, h2, h3, h4⟩, c (Itr i (j - i).toNat) H2 Z2 Fs2 [] S2 (t1.trans t2 tor_sub) walkD_range fun _ h => by simp at h⟩
      · exact c.elim
theorem enumD_get : ∀ (xs : List D) (n i : Nat), (enumD n xs)[i]? = xs[i]?.map fun d => .tup [.int ((n + i : Nat) : Int), d]
  | [], _, _ => by simp [enumD]
  | x :: xs, n, 0 => by simp [enumD]
  | x :: xs, n, i + 1 => by
    simp only [enumD, List.getElem?_cons_succ]
    rw [enumD_get xs (n + 1) i]
    have e : n + 1 + i = n + (i + 1) := by omega
    rw [e]
theorem enumD_len : ∀ (xs : List D) (n : Nat), (enumD n xs).length = xs.length
  | [], _ => rfl
  | x :: xs, n => by simp [enumD, enumD_len xs (n + 1)]
/-- a new pair -/
theorem rep_pair {K : PySem.W.Frag} {mg : Mg} {Z : Addr → Prop} {H : Hp} {T : Addr} {x y : V} {d e : D} (hT : H T = none) (zs : ∀ a, Z a → ∃ o, H a = some o) (rx : Rep K mg Z H d x []) (ry : Rep K mg Z H e y []) : ∃ Z', Alloc Z H Z' (upd H T (.tup [x, y])) [] ∧ Rep K mg Z' (upd H T (.tup [x, y])) (.tup [d, e]) (.ref T) [] := by
  have al : Alloc Z H (fun a => Z a ∨ a = T) (upd H T (.tup [x, y])) [] := Alloc.tup hT
  refine ⟨_, al, ?_⟩
  simp only [Rep]
  exact ⟨T, [x, y], rfl, .inl ⟨.inr rfl, .inl upd_same⟩, Reps.cons (F := []) (rx.stay (al.stay zs) fun _ h => by simp at h) (Reps.one (ry.stay (al.stay zs) fun _ h => by simp at h))⟩
theorem vi_enum {kk : Nat} {tpos : Pos} {elts : List Expr} (hg : Gl X "enumerate") (hm : X.mg "enumerate" = none) (ha : VE X a f T src) (hs : starEach [a] X.env = [(false, eval a X.env)] := by rfl) : VI X (.Tuple elts kk tpos) (.Call (.Name "enumerate" p) [a] [] pos) (enumI f) T src.toList := by
  refine ⟨fun W tk => pi_imp (pi_enum hg hm (pa_cons (ha.run W tk) pa_nil hs) hs) fun σ H R ⟨Z, env, Fs, S, c⟩ => ⟨Z, env, Fs, S, ?_⟩⟩
  unfold enumI bnd at c
  cases q : f env with
  | err => rw [q] at c; exact c.elim
  | exc x fs e1 => rw [q] at c; exact c
  | ok d e1 =>
    rw [q] at c
    intro v H1 Z1 Fs1 F1 S1 t1 r1 p1
    cases d <;> first | exact c.elim | skip
    rename_i o xs
    dsimp only at c
    split at c
    · exact c.elim
    · rename_i ho
      have ho : D.owns xs = false := by simpa using ho
      have wk : ∀ {p : Addr} {vs : List V} {G Fd : List Addr}, Reps X.K X.mg Z1 H1 xs vs G → (∀ Z H, Stay Z1 Z H1 H → (∀ a ∈ Fd, H a = H1 a) → SqL X.K H p vs) → WalkD X.K X.mg (Ite X.K p) (enumD 0 xs) Z1 H1 Fd := fun {p vs G Fd} r qq => by
        refine ⟨fun H => SqL X.K H p vs, YPair (fun i => some (.int (i : Nat))) (fun i => vs[i]?), by rw [enumD_len, ← r.length]; exact walk_enum, qq, fun i d Z H x H' hd st hF zs y => ?_⟩
        obtain ⟨T', y1, y2, rfl, hT, rfl, h1, h2⟩ := y
        rw [enumD_get] at hd
        cases qx : xs[i]? with
        | none => rw [qx] at hd; cases hd
        | some d0 =>
          rw [qx] at hd
          simp only [Option.map_some, Option.some.injEq] at hd h1
          subst hd h1
          exact rep_pair hT zs (by simp [Rep]) ((r.item ho qx h2).stay st fun _ h => by simp at h)
      cases o with
      | false =>
        simp only [Rep] at r1
        obtain ⟨a, vs, e, t, r, _⟩ := r1
        exact ⟨a, vs, by rw [e], t.sq, c (Ite X.K a) H1 Z1 Fs1 [] S1 t1 (wk r fun Z H st _ => (t.stay st).sq) fun _ h => by simp at h⟩
      | true =>
        have th := r1.there
        simp only [Rep] at r1
        obtain ⟨a, vs, G, e, t, r, ff⟩ := r1
        subst ff
        exact ⟨a, vs, by rw [e], SqL.of t, c (Ite X.K a) H1 Z1 Fs1 [a] S1 t1 (wk r fun Z H st k => SqL.of ((k a (by simp)).trans t)) (p1.stF th fun b hb => by simp at hb; simp [hb])⟩
theorem zipD_get : ∀ (xs ys : List D) (i : Nat), (zipD xs ys)[i]? = match xs[i]?, ys[i]? with
    | some x, some y => some (.tup [x, y])
    | _, _ => none
  | [], ys, i => by simp [zipD]
  | x :: xs, [], i => by
    simp only [zipD, List.getElem?_nil]
    cases (x :: xs)[i]? <;> rfl
  | x :: xs, y :: ys, 0 => by simp [zipD]
  | x :: xs, y :: ys, i + 1 => by
    simp only [zipD, List.getElem?_cons_succ]
    exact zipD_get xs ys i
theorem zipD_len : ∀ (xs ys : List D), (zipD xs ys).length = min xs.length ys.length
  | [], _ => by simp [zipD]
  | _ :: _, [] => by simp [zipD]
  | x :: xs, y :: ys => by simp [zipD, zipD_len xs ys, Nat.succ_min_succ]
theorem walk_zipT {K : PySem.W.Frag} {a b : Addr} {xs ys : List V} {n : Nat} (hn : n = min xs.length ys.length) : Walk (RZ.ItzT K a b) n (fun H => SqT K H a xs ∧ SqT K H b ys) (YPair (fun i => xs[i]?) (fun i => ys[i]?)) := by
  subst hn
  refine ⟨fun i H hi q => ?_, fun H q => ⟨xs, ys, q.1, q.2, by omega⟩, fun i H v H' hi q y => ?_⟩
  · exact ⟨xs, ys, xs[i]'(by omega), ys[i]'(by omega), q.1, q.2, List.getElem?_eq_getElem _, List.getElem?_eq_getElem _⟩
  · obtain ⟨T, x, z, h1, h2, h3, h4, h5⟩ := y
    exact ⟨T, x, z, h1, h2, h3, h4 xs q.1, h5 ys q.2⟩
theorem zip_item {K : PySem.W.Frag} {mg : Mg} {Z0 Z : Addr → Prop} {H0 H H' : Hp} {xs ys : List D} {vs us : List V} {G1 G2 : List Addr} {i : Nat} {d : D} {x : V} (r1 : Reps K mg Z0 H0 xs vs G1) (r2 : Reps K mg Z0 H0 ys us G2) (o1 : D.owns xs = false) (o2 : D.owns ys = false)
    (hd : (zipD xs ys)[i]? = some d) (st : Stay Z0 Z H0 H) (zs : ∀ a, Z a → ∃ o, H a = some o) (y : YPair (fun i => vs[i]?) (fun i => us[i]?) i H x H') : ∃ Z', Alloc Z H Z' H' [] ∧ Rep K mg Z' H' d x [] := by
  obtain ⟨T', y1, y2, rfl, hT, rfl, h1, h2⟩ := y
  rw [zipD_get] at hd
  cases qx : xs[i]? with
  | none => rw [qx] at hd; cases hd
  | some d0 =>
    cases qy : ys[i]? with
    | none => rw [qx, qy] at hd; cases hd
    | some d1 =>
      rw [qx, qy] at hd
      simp only [Option.some.injEq] at hd
      subst hd
      exact rep_pair hT zs ((r1.item o1 qx h1).stay st fun _ h => by simp at h) ((r2.item o2 qy h2).stay st fun _ h => by simp at h)
/-- what a list is read by, and what has to stay for it -/
theorem lst_read {K : PySem.W.Frag} {mg : Mg} {Z : Addr → Prop} {H : Hp} {o : Bool} {xs : List D} {v : V} {F : List Addr} (r : Rep K mg Z H (.lst o xs) v F) : ∃ (a : Addr) (vs : List V) (G Fd : List Addr), v = .ref a ∧ SqL K H a vs ∧ Reps K mg Z H xs vs G ∧ (∀ b ∈ Fd, b ∈ F) ∧ ∀ Z' H', Stay Z Z' H H' → (∀ b ∈ Fd, H' b = H b) → SqL K H' a vs := by
  cases o with
  | false =>
    simp only [Rep] at r
    obtain ⟨a, vs, e, t, r, _⟩ := r
    exact ⟨a, vs, [], [], e, t.sq, r, fun _ h => by simp at h, fun Z' H' st _ => (t.stay st).sq⟩
  | true =>
    simp only [Rep] at r
    obtain ⟨a, vs, G, e, t, r, ff⟩ := r
    exact ⟨a, vs, G, [a], e, SqL.of t, r, fun b hb => by rw [ff]; simp at hb; simp [hb], fun Z' H' st k => SqL.of ((k a (by simp)).trans t)⟩
theorem vi_zip {kk : Nat} {tpos : Pos} {elts : List Expr} (k : Bool) (hg : Gl X "zip") (hm : X.mg "zip" = none) (ha : VE X a fa Ta sa) (hb : VE X b fb Tb sb) (hk : k = true → ∀ i, sa = some i → Tb i = false)
    (hs : starEach [a, b] X.env = (false, eval a X.env) :: starEach [b] X.env := by rfl) (hs2 : starEach [b] X.env = (false, eval b X.env) :: starEach [] X.env := by rfl) (hpl : ∀ pos, (backTo pos (starEach [b] X.env)).any (·.1) = false := by intro _; rfl) :
    VI X (.Tuple elts kk tpos) (.Call (.Name "zip" p) [a, b] [] pos) (zipI k fa fb) (tor Ta Tb) (sa.toList ++ sb.toList) := by
  refine ⟨fun W tk => pi_imp (RZ.pi_zipA hg hm (pa_cons (ha.run W tk) (pa_cons (hb.run W tk) pa_nil hs2) hs) hs (hpl pos)) fun σ H R ⟨Z, env, Fs, S, c⟩ => ⟨Z, env, Fs, S, ?_⟩⟩
  unfold zipI bnd at c
  cases q : fa env with
  | err => rw [q] at c; exact c.elim
  | exc x fs e1 => rw [q] at c; exact fun cls dd H' Z' Fs' S' t r => c cls dd H' Z' Fs' S' (t.mono fun i q => (tor_sub i q).1) r
  | ok d e1 =>
    rw [q] at c
    intro v H1 Z1 Fs1 F1 S1 t1 r1 p1
    refine ⟨Z1, e1, Fs1, S1, ?_⟩
    dsimp only at c
    by_cases hc : (k || !d.own) = true
    · rw [if_pos hc] at c
      cases q2 : fb e1 with
      | err => rw [q2] at c; exact c.elim
      | exc x fs e2 => rw [q2] at c; exact fun cls dd H' Z' Fs' S' t r => c cls dd H' Z' Fs' S' (t1.trans t tor_sub) r
      | ok d2 e2 =>
        rw [q2] at c
        intro v2 H2 Z2 Fs2 F2 S2 t2 r2 p2
        dsimp only at c
        have hk' : d.own = false ∨ ∀ i, sa = some i → Tb i = false := (Bool.or_eq_true_iff.mp hc).elim (fun q => .inr (hk q)) fun q => .inl (by simpa using q)
        have r1' := Rep.over S1 p1 r1 t2 hk'
        -- what has to stay for the first one
        have sf1 : ∀ {G : List Addr}, (∀ a ∈ G, a ∈ F1) → StF (sa.toList ++ sb.toList) H2 Fs2 G := fun {G} sub a hm0 => by
          have hm1 := sub a hm0
          clear hm0 ha hk c
          cases sa with
          | none => exact .inl ⟨((p1.over r1.there t2).2 a hm1).1, r1'.there a hm1⟩
          | some i =>
            rcases hk' with z | z
            · rw [r1.unown z] at hm1; cases hm1
            · exact .inr ⟨i, by simp, by rw [(t2.un i (z i rfl)).2.1]; exact p1.2 a hm1⟩
        have sf2 : ∀ {G : List Addr}, (∀ a ∈ G, a ∈ F2) → StF (sa.toList ++ sb.toList) H2 Fs2 G := fun {G} sub a ha => by
          rcases p2.stF r2.there sub a ha with z | ⟨i, z1, z2⟩
          · exact .inl z
          · exact .inr ⟨i, by simp [z1], z2⟩
        have tt := t1.trans t2 (T := tor Ta Tb) tor_sub
        cases d <;> first | exact c.elim | skip
        · cases d2 <;> first | exact c.elim | skip
          rename_i xs ys
          dsimp only at c
          split at c
          · exact c.elim
          · rename_i ho
            simp only [Bool.or_eq_true, not_or, Bool.not_eq_true] at ho
            simp only [Rep] at r1' r2
            obtain ⟨a1, vs1, e1, h1, g1⟩ := r1'
            obtain ⟨a2, vs2, e2, h2, g2⟩ := r2
            subst e1 e2
            refine ⟨a1, a2, vs1, vs2, rfl, .inr ⟨h1.sq, h2.sq, c (RZ.ItzT X.K a1 a2) H2 Z2 Fs2 [] S2 tt ⟨fun H => SqT X.K H a1 vs1 ∧ SqT X.K H a2 vs2, _, walk_zipT (by rw [zipD_len, g1.length, g2.length]), fun Z H st _ => ⟨(h1.stay st).sq, (h2.stay st).sq⟩, fun i d Z H x H' hd st hF zs y => zip_item g1 g2 ho.1 ho.2 hd st zs y⟩ fun _ h => by simp at h⟩⟩
        · cases d2 <;> first | exact c.elim | skip
          rename_i o1 xs o2 ys
          dsimp only at c
          split at c
          · exact c.elim
          · rename_i ho
            simp only [Bool.or_eq_true, not_or, Bool.not_eq_true] at ho
            obtain ⟨a1, vs1, G1, Fd1, e1, h1, g1, s1, k1⟩ := lst_read r1'
            obtain ⟨a2, vs2, G2, Fd2, e2, h2, g2, s2, k2⟩ := lst_read r2
            subst e1 e2
            refine ⟨a1, a2, vs1, vs2, rfl, .inl ⟨h1, h2, c (Itz X.K a1 a2) H2 Z2 Fs2 (Fd1 ++ Fd2) S2 tt ⟨fun H => SqL X.K H a1 vs1 ∧ SqL X.K H a2 vs2, _, walk_zip (by rw [zipD_len, g1.length, g2.length]), fun Z H st hF => ⟨k1 Z H st fun b hb => hF b (by simp [hb]), k2 Z H st fun b hb => hF b (by simp [hb])⟩, fun i d Z H x H' hd st hF zs y => zip_item g1 g2 ho.1 ho.2 hd st zs y⟩ fun b hb => (List.mem_append.mp hb).elim (sf1 s1 b) (sf2 s2 b)⟩⟩
    · rw [if_neg hc] at c
      exact c.elim
end

/-! ### for -/
def gtb (g : M Unit) (k : M Fl) : M Fl := fun env => match g env with
  | .ok _ e => k e
  | _ => .err
def forM (gt : D → M Unit) (fb : M Fl) : List D → M Fl
  | [] => pur .nx
  | d :: ds => if d.own then bad else gtb (gt d) <| bnd fb fun r => match r with
    | .nx => forM gt fb ds
    | .ct => forM gt fb ds
    | .bk => pur .nx
    | .rt d => pur (.rt d)
def forS (fi : M (List D)) (gt : D → M Unit) (fb : M Fl) : M Fl := bnd fi fun ds => forM gt fb ds
section
variable {X : Cx} {tg iter : Expr} {body : List Stmt} {pos : Pos} {fi : M (List D)} {gt : D → M Unit} {fb : M Fl} {Ti Tg Tb : Nat → Bool} {srcs : List Nat}
theorem vs_for (hp : ∀ W, Takes X W → PassesOwn (model X.prog X.w) X.A X.env X.xe) (hc : X.calm = true) (hi : VI X tg iter fi Ti srcs) (hg : VGt X tg gt Tg) (hb : VSs X body fb Tb) (hu : ∀ i ∈ srcs, tor Tg Tb i = false) (hs : ∀ x, foldedSetIterable iter X.env x = pure x := by intro _; rfl) :
    VS X (.For tg iter body [] pos) (forS fi gt fb) (tor Ti (tor Tg Tb)) := by
  refine ⟨fun W tk => ps_imp (ps_for (hp W tk) hc (hi.run W tk) hg.run (hb.run W tk) hs) fun D σ H ⟨Z, env, Fs, S, c⟩ => ⟨Z, env, Fs, S, ?_⟩⟩
  unfold forS bnd at c
  cases q : fi env with
  | err => rw [q] at c; exact c.elim
  | exc x fs e1 => rw [q] at c; exact fun cls dd H' Z' Fs' S' t r => c cls dd σ H' Z' Fs' S' (t.mono fun i q => (tor_sub i q).1) Pin.refl r
  | ok ds e1 =>
    rw [q] at c
    dsimp only at c
    intro J H1 Z1 Fs1 Fd S1 t1 wk sf
    have c := ContS.step (T2 := tor Tg Tb) c t1 tor_sub Pin.refl
    obtain ⟨G, Y, w, hG, hY⟩ := wk
    -- what holds between two turns
    refine for_it w (fun i σ' H' => ∃ Z' env' Fs', SR X.K X.mg Z' H' σ' env' Fs' ∧ Tr (tor Tg Tb) Z1 H1 e1 Fs1 Z' H' env' Fs' ∧ ContS X.K X.mg (tor Tg Tb) W D σ' Z' H' env' Fs' (forM gt fb (ds.drop i) env')) ⟨Z1, e1, Fs1, S1, Tr.refl, by simpa using c⟩ ?_ ?_ ?_
    · rintro i σ' H' hi ⟨Z', env', Fs', S', t', c'⟩
      refine hG Z' H' (t'.stay S1) fun a ha => ?_
      rcases sf a ha with ⟨z1, o, z2⟩ | ⟨j, z1, z2⟩
      · rw [z2]; exact t'.keep a o z2 z1
      · exact (t'.un j (hu j z1)).2.2 a z2
    · rintro i x σ' H' H2 hi ⟨Z', env', Fs', S', t', c'⟩ y
      have hd : ds[i]? = some ds[i] := List.getElem?_eq_getElem hi
      rw [List.drop_eq_getElem_cons hi] at c'
      unfold forM at c'
      split at c'
      · exact c'.elim
      · unfold gtb bnd at c'
        obtain ⟨Z2, al, r⟩ := hY i ds[i] Z' H' x H2 hd (t'.stay S1) (fun a ha => by
          rcases sf a ha with ⟨z1, o, z2⟩ | ⟨j, z1, z2⟩
          · rw [z2]; exact t'.keep a o z2 z1
          · exact (t'.un j (hu j z1)).2.2 a z2) S'.zs y
        have S2 := S'.alloc al
        have ta : Tr T0 Z' H' env' Fs' Z2 H2 env' Fs' := Tr.alloc S' al
        have c2 := ContS.step (T2 := tor Tg Tb) c' ta (fun i q => ⟨rfl, q⟩) Pin.refl
        cases qg : gt ds[i] env' with
        | err => rw [qg] at c2; exact c2.elim
        | exc x fs e2 => rw [qg] at c2; exact c2.elim
        | ok u e2 =>
          rw [qg] at c2
          dsimp only at c2
          refine ⟨Z2, env', Fs', _, S2, r, e2, qg, fun σ3 Fs3 S3 t3 p3 o3 l3 => ?_⟩
          have t03 : Tr (tor Tg Tb) Z1 H1 e1 Fs1 Z2 H2 e2 Fs3 := (t'.trans (ta.trans t3 (T := Tg) fun i q => ⟨rfl, q⟩) (T := tor Tg Tb) fun i q => ⟨q, (tor_sub i q).1⟩)
          have c3 := ContS.step (T2 := tor Tg Tb) c2 t3 (fun i q => ⟨(tor_sub i q).1, q⟩) p3
          refine ⟨Z2, e2, Fs3, S3, ?_⟩
          cases qb : fb e2 with
          | err => rw [qb] at c3; exact c3.elim
          | exc x fs e4 =>
            rw [qb] at c3
            exact fun cls dd σ' H' Z' Fs' S t p r => c3 cls dd σ' H' Z' Fs' S (t.mono fun i q => (tor_sub i q).2) p r
          | ok dd e4 =>
            rw [qb] at c3
            have nx : ∀ {σ5 H5 Z5 Fs5}, SR X.K X.mg Z5 H5 σ5 e4 Fs5 → Tr Tb Z2 H2 e2 Fs3 Z5 H5 e4 Fs5 → Pin e2.p σ3 σ5 → ContS X.K X.mg (tor Tg Tb) W D σ3 Z2 H2 e2 Fs3 (forM gt fb (ds.drop (i + 1)) e4) →
                ∃ Z' env' Fs', SR X.K X.mg Z' H5 σ5 env' Fs' ∧ Tr (tor Tg Tb) Z1 H1 e1 Fs1 Z' H5 env' Fs' ∧ ContS X.K X.mg (tor Tg Tb) W D σ5 Z' H5 env' Fs' (forM gt fb (ds.drop (i + 1)) env') :=
              fun {σ5 H5 Z5 Fs5} S t p cc => ⟨Z5, e4, Fs5, S, t03.trans t fun i q => ⟨q, (tor_sub i q).2⟩, ContS.step cc t (fun i q => ⟨(tor_sub i q).2, q⟩) p⟩
            cases dd with
            | rt d => exact fun v σ' H' Z' Fs' Fd S t p r w => c3 v σ' H' Z' Fs' Fd S (t.mono fun i q => (tor_sub i q).2) p r w
            | bk => exact fun σ' H' Z' Fs' S t p => c3 σ' H' Z' Fs' S (t.mono fun i q => (tor_sub i q).2) p
            | ct => exact fun σ' H' Z' Fs' S t p => nx S t p c3
            | nx => exact fun σ' H' Z' Fs' S t p => nx S t p c3
    · rintro σ' H' ⟨Z', env', Fs', S', t', c'⟩
      rw [List.drop_length] at c'
      exact c' σ' H' Z' Fs' S' Tr.refl Pin.refl
end
end VI
/-! V10: list comprehensions -/
namespace VI
open PySem PySem.Spec L2

def Env.dropL (env : Env) : List Nat → Env
  | [] => env
  | i :: is => (env.dropL is).drop i
/-- the slots of e1 again -/
def Env.restL (env e1 : Env) : List Nat → Env
  | [] => env
  | i :: is => match e1.s[i]? with
    | some (some d) => (env.restL e1 is).put i d
    | _ => (env.restL e1 is).drop i
def savedOk (e1 : Env) (vs : List Nat) : Bool := vs.all fun i => match e1.s[i]? with
  | some (some d) => !d.own
  | _ => true
def compLoop (gt : D → M Unit) (ft : M Bool) (fe : M D) (vs : List Nat) : List D → List D → M (List D)
  | [], acc => pur acc
  | d :: ds, acc => fun env => if d.own then .err else match gt d env with
    | .ok _ e1 => (match ft e1 with
      | .ok true e2 => (match fe e2 with
        | .ok y e3 => if acc.length < 16777216 then compLoop gt ft fe vs ds (acc ++ [y]) (e3.dropL vs) else .err
        | _ => .err)
      | .ok false e2 => compLoop gt ft fe vs ds acc (e2.dropL vs)
      | _ => .err)
    | _ => .err
def compM (vs : List Nat) (fi : M (List D)) (gt : D → M Unit) (ft : M Bool) (fe : M D) : M D := bnd fi fun ds e1 =>
  if savedOk e1 vs = true then (match compLoop gt ft fe vs ds [] (e1.dropL vs) with
    | .ok acc e2 => .ok (.lst true acc) (e2.restL e1 vs)
    | _ => .err) else .err
def fsetL (Fs : Nat → List Addr) (vs : List Nat) : Nat → List Addr := fun j => if j ∈ vs then [] else Fs j
section
variable {K : PySem.W.Frag} {mg : Mg} {Z Z' Z1 Z2 : Addr → Prop} {H H' H1 H2 : Hp} {σ σ1 : L2.St} {env env' env1 env2 : Env} {Fs Fs' Fs1 Fs2 : Nat → List Addr} {T T' T1 T2 : Nat → Bool} {vs : List Nat}
theorem dropL_in : ∀ {vs : List Nat} {env : Env} {j : Nat}, j ∈ vs → ∀ d, (env.dropL vs).s[j]? ≠ some (some d)
  | i :: is, env, j, h, d => by
    intro q
    simp only [Env.dropL, Env.drop] at q
    by_cases e : i = j
    · subst e
      by_cases hl : i < (env.dropL is).s.length
      · rw [List.getElem?_set_self hl] at q; cases q
      · rw [List.getElem?_eq_none (by simpa using hl)] at q; cases q
    · rw [List.getElem?_set_ne e] at q
      exact dropL_in ((List.mem_cons.mp h).resolve_left (Ne.symm e)) d q
theorem dropL_out : ∀ {vs : List Nat} {env : Env} {j : Nat}, j ∉ vs → (env.dropL vs).s[j]? = env.s[j]?
  | [], _, _, _ => rfl
  | i :: is, env, j, h => by
    simp only [List.mem_cons, not_or] at h
    simp only [Env.dropL, Env.drop]
    rw [List.getElem?_set_ne (Ne.symm h.1)]
    exact dropL_out h.2
theorem dropL_get : ∀ {vs : List Nat} {env : Env} {j : Nat}, j ∈ vs → j < env.s.length → (env.dropL vs).s[j]? = some none
  | i :: is, env, j, h, hl => by
    have dl : ∀ {vs : List Nat} {env : Env}, (env.dropL vs).s.length = env.s.length := fun {vs} => by
      induction vs with
      | nil => intro env; rfl
      | cons i is ih => intro env; simp only [Env.dropL, Env.drop, List.length_set]; exact ih
    simp only [Env.dropL, Env.drop]
    by_cases e : i = j
    · subst e
      rw [List.getElem?_set_self (by rw [dl]; exact hl)]
    · rw [List.getElem?_set_ne e]
      exact dropL_get ((List.mem_cons.mp h).resolve_left (Ne.symm e)) hl
theorem dropL_len : ∀ {vs : List Nat} {env : Env}, (env.dropL vs).s.length = env.s.length ∧ (env.dropL vs).p = env.p
  | [], _ => ⟨rfl, rfl⟩
  | i :: is, env => by
    simp only [Env.dropL, Env.drop, List.length_set]
    exact dropL_len (vs := is)
theorem dropL_same {vs : List Nat} {a b : Env} {j : Nat} (h : j ∈ vs) (hl : a.s.length = b.s.length) : (a.dropL vs).s[j]? = (b.dropL vs).s[j]? := by
  by_cases q : j < b.s.length
  · rw [dropL_get h q, dropL_get h (by omega)]
  · rw [List.getElem?_eq_none (by rw [dropL_len.1]; omega), List.getElem?_eq_none (by rw [dropL_len.1]; omega)]
theorem restL_len : ∀ {vs : List Nat} {env e1 : Env}, (env.restL e1 vs).s.length = env.s.length ∧ (env.restL e1 vs).p = env.p
  | [], _, _ => ⟨rfl, rfl⟩
  | i :: is, env, e1 => by
    simp only [Env.restL]
    split
    · simp only [Env.put, List.length_set]; exact restL_len (vs := is)
    · simp only [Env.drop, List.length_set]; exact restL_len (vs := is)
theorem restL_out : ∀ {vs : List Nat} {env e1 : Env} {j : Nat}, j ∉ vs → (env.restL e1 vs).s[j]? = env.s[j]?
  | [], _, _, _, _ => rfl
  | i :: is, env, e1, j, h => by
    simp only [List.mem_cons, not_or] at h
    simp only [Env.restL]
    split
    · rw [Env.put, List.getElem?_set_ne (Ne.symm h.1)]; exact restL_out h.2
    · rw [Env.drop, List.getElem?_set_ne (Ne.symm h.1)]; exact restL_out h.2
theorem restL_in : ∀ {vs : List Nat} {env e1 : Env} {j : Nat}, env.s.length = e1.s.length → j ∈ vs → (env.restL e1 vs).s[j]? = e1.s[j]?
  | i :: is, env, e1, j, hl, h => by
    simp only [Env.restL]
    by_cases e : i = j
    · subst e
      split
      · rename_i d hd
        rw [Env.put, List.getElem?_set_self (by rw [restL_len.1, hl]; exact (List.getElem?_eq_some_iff.mp hd).1), hd]
      · rename_i hn
        by_cases hlt : i < e1.s.length
        · rw [Env.drop, List.getElem?_set_self (by rw [restL_len.1, hl]; exact hlt)]
          cases q : e1.s[i]? with
          | none => rw [List.getElem?_eq_none_iff] at q; omega
          | some o =>
            cases o with
            | none => rfl
            | some d => exact absurd q (hn d)
        · rw [List.getElem?_eq_none (by simpa [Env.drop, restL_len.1, hl] using hlt), List.getElem?_eq_none (by simpa using hlt)]
    · have h' := (List.mem_cons.mp h).resolve_left (Ne.symm e)
      split
      · rw [Env.put, List.getElem?_set_ne e]; exact restL_in hl h'
      · rw [Env.drop, List.getElem?_set_ne e]; exact restL_in hl h'
theorem fsetL_in {j : Nat} (h : j ∈ vs) : fsetL Fs vs j = [] := if_pos h
theorem fsetL_out {j : Nat} (h : j ∉ vs) : fsetL Fs vs j = Fs j := if_neg h
theorem fsetL_mem {j : Nat} {a : Addr} (h : a ∈ fsetL Fs vs j) : a ∈ Fs j ∧ j ∉ vs := by
  by_cases q : j ∈ vs
  · rw [fsetL_in q] at h; cases h
  · rw [fsetL_out q] at h; exact ⟨h, q⟩
/-- the state without some slots -/
theorem SR.dropL {τ : L2.St} (S : SR K mg Z H σ env Fs) (hl : τ.length = σ.length) (ho : ∀ j, j ∉ vs → τ[j]? = σ[j]?) : SR K mg Z H τ (env.dropL vs) (fsetL Fs vs) where
  len := by rw [dropL_len.1, hl, S.len]
  rep := fun j d e => by
    by_cases q : j ∈ vs
    · exact absurd e (dropL_in q d)
    · rw [dropL_out q] at e
      rw [fsetL_out q, ho j q]
      exact S.rep j d e
  no := fun j h => by
    by_cases q : j ∈ vs
    · exact fsetL_in q
    · rw [fsetL_out q]
      exact S.no j fun d z => h d (by rw [dropL_out q]; exact z)
  nd := fun j => by
    by_cases q : j ∈ vs
    · rw [fsetL_in q]; exact List.nodup_nil
    · rw [fsetL_out q]; exact S.nd j
  dj := fun i j ne a ha hb => S.dj i j ne a (fsetL_mem ha).1 (fsetL_mem hb).1
  zf := fun i a ha => S.zf i a (fsetL_mem ha).1
  zs := S.zs
/-- a thing of nobody's here is written -/
theorem SR.fore {p : Addr} {o : HO} (S : SR K mg Z H σ env Fs) (h1 : ∀ i, p ∉ Fs i) (h2 : ¬ Z p) : SR K mg Z (upd H p o) σ env Fs where
  len := S.len
  rep := fun j d e => by
    obtain ⟨v, q1, q2⟩ := S.rep j d e
    exact ⟨v, q1, q2.stay ⟨fun _ h => h, fun a ha => upd_ne (fun e => by subst e; exact h2 ha)⟩ fun a ha => upd_ne (fun e => by subst e; exact h1 j ha)⟩
  no := S.no
  nd := S.nd
  dj := S.dj
  zf := S.zf
  zs := fun a ha => by
    obtain ⟨u, e⟩ := S.zs a ha
    exact ⟨u, by rw [upd_ne (fun e => by subst e; exact h2 ha)]; exact e⟩
theorem Tr.fore {p : Addr} {o : HO} (t : Tr T Z1 H1 env1 Fs1 Z H env Fs) (hp : H1 p = none) (h : ∀ j, p ∉ Fs1 j) : Tr T Z1 H1 env1 Fs1 Z (upd H p o) env Fs where
  z := t.z
  zn := t.zn
  keep := fun a u e n => by
    rw [upd_ne (ne_of_none e hp)]
    exact t.keep a u e n
  gr := fun a e => by
    by_cases q : a = p
    · subst q; rw [upd_same] at e; cases e
    · rw [upd_ne q] at e; exact t.gr a e
  new := t.new
  un := fun i hi => by
    obtain ⟨u1, u2, u3⟩ := t.un i hi
    exact ⟨u1, u2, fun a ha => by rw [upd_ne (fun e => by subst e; exact h i ha)]; exact u3 a ha⟩
  p := t.p
/-- the state with the slots of an elder one again -/
theorem SR.restL (S1 : SR K mg Z1 H1 σ env1 Fs1) (S : SR K mg Z H σ1 env Fs) (st : Stay Z1 Z H1 H) (hl : σ1.length = σ.length) (ho : ∀ j, j ∉ vs → σ1[j]? = σ[j]?) (hn : ∀ j, j ∈ vs → ∀ d, env.s[j]? ≠ some (some d)) (ok : savedOk env1 vs = true) : SR K mg Z H σ (env.restL env1 vs) Fs where
  len := by rw [restL_len.1, S.len, hl]
  rep := fun j d e => by
    by_cases q : j ∈ vs
    · rw [restL_in (by rw [S.len, hl, S1.len]) q] at e
      obtain ⟨v, q1, q2⟩ := S1.rep j d e
      have ou : d.own = false := by
        have := List.all_eq_true.mp ok j q
        rw [e] at this
        simpa using this
      have e0 := q2.unown ou
      rw [S.no j (hn j q)]
      rw [e0] at q2
      exact ⟨v, q1, q2.stay st fun _ h => by simp at h⟩
    · rw [restL_out q] at e
      obtain ⟨v, q1, q2⟩ := S.rep j d e
      exact ⟨v, by rw [← ho j q]; exact q1, q2⟩
  no := fun j h => by
    by_cases q : j ∈ vs
    · exact S.no j (hn j q)
    · exact S.no j fun d z => h d (by rw [restL_out q]; exact z)
  nd := S.nd
  dj := S.dj
  zf := S.zf
  zs := S.zs
theorem wipe_get : ∀ {vs : List Nat} {σ : L2.St} {j : Nat}, j ∈ vs → j < σ.length → (wipe σ vs)[j]? = some none
  | i :: is, σ, j, h, hl => by
    simp only [wipe]
    by_cases e : i = j
    · subst e
      rw [List.getElem?_set_self (by rw [wipe_length]; exact hl)]
    · rw [List.getElem?_set_ne e]
      exact wipe_get ((List.mem_cons.mp h).resolve_left (Ne.symm e)) hl
theorem wipe_eq {σ τ : L2.St} (hl : τ.length = σ.length) (ho : ∀ j, j ∉ vs → τ[j]? = σ[j]?) : wipe τ vs = wipe σ vs := by
  apply List.ext_getElem?
  intro j
  by_cases q : j ∈ vs
  · by_cases hlt : j < σ.length
    · rw [wipe_get q hlt, wipe_get q (by rw [hl]; exact hlt)]
    · rw [List.getElem?_eq_none (by rw [wipe_length]; omega), List.getElem?_eq_none (by rw [wipe_length]; omega)]
  · rw [wipe_out q, wipe_out q]
    exact ho j q
end
/-- a clause's tests -/
structure VTs (X : Cx) (ifs : List Expr) (f : M Bool) (T : Nat → Bool) : Prop where
  run : ∀ W, Takes X W → PTs X ifs (tT X.K X.mg f T W)
section
variable {X : Cx} {c : Expr} {f : M Bool} {T : Nat → Bool}
theorem vts_nil : VTs X [] (pur true) T0 := ⟨fun W tk => ⟨fun pins s σ H Q I ⟨Z, env, Fs, S, c⟩ => pts_nil.run pins s σ H Q I (c H Z Fs S Tr.refl)⟩⟩
theorem vts_one (h : VT X c f T) : VTs X [c] f T := ⟨fun W tk => pts_one (h.run W tk)⟩
end
section
variable {X : Cx} {elt tg iter : Expr} {ifs : List Expr} {scope : Scope} {own : List (Str × Nat)} {pos : Pos} {fi : M (List D)} {gt : D → M Unit} {ft : M Bool} {fe : M D} {Ti Tg Tt Te : Nat → Bool} {srcs : List Nat} {se : Option Nat} {vs : List Nat}
theorem comp_read {W : WX} {σ : L2.St} {H : Hp} {Q : VK} (hT : ∀ j, Tg j = true → j ∈ vs) (hu : ∀ i ∈ srcs, i ∉ vs ∧ Tt i = false ∧ Te i = false) (h : tE X.K X.mg (compM vs fi gt ft fe) (tor Ti (tor Tt Te)) none W σ H Q) :
    tLc (tI X.K X.mg fi Ti srcs W) (tGt X.K X.mg gt Tg) (tT X.K X.mg ft Tt (fun _ _ _ _ => False)) (tE X.K X.mg fe Te none (fun _ _ _ _ => False)) vs σ H Q := by
  obtain ⟨Z, env, Fs, S, c⟩ := h
  refine ⟨Z, env, Fs, S, ?_⟩
  unfold compM bnd at c
  cases q : fi env with
  | err => rw [q] at c; exact c.elim
  | exc x fs e1 => rw [q] at c; exact fun cls dd H' Z' Fs' S' t r => c cls dd H' Z' Fs' S' (t.mono fun i q => (tor_sub i q).1) r
  | ok ds e1 =>
    rw [q] at c
    dsimp only at c
    intro J H1 Z1 Fs1 Fd S1 t1 wk sf D hD
    split at c
    · rename_i hsv
      cases ql : compLoop gt ft fe vs ds [] (e1.dropL vs) with
      | err => rw [ql] at c; exact c.elim
      | exc x fs e2 => rw [ql] at c; exact c.elim
      | ok accF eF =>
        rw [ql] at c
        dsimp only at c
        have c := Cont.step (T2 := tor Tt Te) c t1 tor_sub
        obtain ⟨G, Y, w, hG, hY⟩ := wk
        have Tgn : ∀ j, j ∉ vs → Tg j = false := fun j hj => by
          cases e : Tg j with
          | false => rfl
          | true => exact absurd (hT j e) hj
        have SD : SR X.K X.mg Z1 H1 (wipe σ vs) (e1.dropL vs) (fsetL Fs1 vs) := S1.dropL (wipe_length _ _) fun j hj => wipe_out hj
        -- what has to stay for the walk
        have keepFd : ∀ {Z' H' env' Fs'}, Tr (tor Tg (tor Tt Te)) Z1 H1 (e1.dropL vs) (fsetL Fs1 vs) Z' H' env' Fs' → ∀ a ∈ Fd, H' a = H1 a := fun {Z' H' env' Fs'} t a ha => by
          rcases sf a ha with ⟨z1, o, z2⟩ | ⟨j, z1, z2⟩
          · rw [z2]; exact t.keep a o z2 fun i z => z1 i (fsetL_mem z).1
          · obtain ⟨u1, u2, u3⟩ := hu j z1
            exact (t.un j (by simp [Tgn j u1, u2, u3])).2.2 a (by rw [fsetL_out u1]; exact z2)
        refine lc_it w (fun i H' => ∃ Z' env' Fs' acc accV Fa, SR X.K X.mg Z' H' (wipe σ vs) env' Fs' ∧ Tr (tor Tg (tor Tt Te)) Z1 H1 (e1.dropL vs) (fsetL Fs1 vs) Z' H' env' Fs' ∧ (∀ j, j ∈ vs → ∀ d, env'.s[j]? ≠ some (some d)) ∧ H' D = some (.lst accV) ∧
          Reps X.K X.mg Z' H' acc accV Fa ∧ Fa.Nodup ∧ (∀ a ∈ Fa, (∀ i, a ∉ Fs' i) ∧ ¬ Z' a ∧ ((∃ j, a ∈ Fs1 j) ∨ H1 a = none)) ∧ (∀ i, D ∉ Fs' i) ∧ ¬ Z' D ∧ D ∉ Fa ∧ compLoop gt ft fe vs (ds.drop i) acc env' = .ok accF eF) ?_ ?_ ?_ ?_
        · have al : Alloc Z1 H1 Z1 (upd H1 D (.lst [])) [D] := Alloc.own hD S1.zs
          refine ⟨Z1, e1.dropL vs, fsetL Fs1 vs, [], [], [], SD.alloc al, Tr.alloc SD al, fun j hj d => dropL_in hj d, upd_same, Reps.nil, List.nodup_nil, fun _ h => by simp at h, fun i z => ?_, (al.fd D (by simp)).2, by simp, by simpa using ql⟩
          obtain ⟨o, e⟩ := S1.tr (fsetL_mem z).1
          rw [hD] at e; cases e
        · rintro i H' hi ⟨Z', env', Fs', acc, accV, Fa, S', t', hn, hDD, ra, na, pa, d1, d2, d3, hl⟩
          exact hG Z' H' (t'.stay SD) (keepFd t')
        · rintro i x H' H2 hi ⟨Z', env', Fs', acc, accV, Fa, S', t', hn, hDD, ra, na, pa, d1, d2, d3, hl⟩ y
          have hd : ds[i]? = some ds[i] := List.getElem?_eq_getElem hi
          rw [List.drop_eq_getElem_cons hi] at hl
          unfold compLoop at hl
          split at hl
          · cases hl
          · obtain ⟨Z2, al, r⟩ := hY i ds[i] Z' H' x H2 hd (t'.stay SD) (keepFd t') S'.zs y
            have S2 := S'.alloc al
            have ta : Tr T0 Z' H' env' Fs' Z2 H2 env' Fs' := Tr.alloc S' al
            cases qg : gt ds[i] env' with
            | err => rw [qg] at hl; cases hl
            | exc x fs e2 => rw [qg] at hl; cases hl
            | ok u e2 =>
              rw [qg] at hl
              dsimp only at hl
              refine ⟨Z2, env', Fs', _, S2, r, e2, qg, fun σ3 Fs3 S3 t3 p3 o3 l3 => ?_⟩
              have ww : wipe σ3 vs = wipe σ vs := by
                rw [wipe_eq (σ := wipe σ vs) (τ := σ3) l3 (fun j hj => o3 j (Tgn j hj))]
                exact wipe_eq (wipe_length _ _) fun j hj => wipe_out hj
              refine ⟨ww, Z2, e2, Fs3, S3, ?_⟩
              have t03 : Tr Tg Z' H' env' Fs' Z2 H2 e2 Fs3 := ta.trans t3 fun i q => ⟨rfl, q⟩
              have σo : ∀ j, j ∉ vs → (wipe σ vs)[j]? = σ3[j]? := fun j hj => (o3 j (Tgn j hj)).symm
              -- back to the turn's end: the slots dropped, what was made so far as it was
              have back : ∀ {T4 : Nat → Bool} {Z4 H4 e4 Fs4}, SR X.K X.mg Z4 H4 σ3 e4 Fs4 → Tr T4 Z' H' env' Fs' Z4 H4 e4 Fs4 → (∀ j, T4 j = false ∨ tor Tg (tor Tt Te) j = true) →
                  SR X.K X.mg Z4 H4 (wipe σ vs) (e4.dropL vs) (fsetL Fs4 vs) ∧ Tr (tor Tg (tor Tt Te)) Z1 H1 (e1.dropL vs) (fsetL Fs1 vs) Z4 H4 (e4.dropL vs) (fsetL Fs4 vs) ∧ H4 D = some (.lst accV) ∧ Reps X.K X.mg Z4 H4 acc accV Fa ∧
                  (∀ a ∈ Fa, (∀ i, a ∉ fsetL Fs4 vs i) ∧ ¬ Z4 a ∧ ((∃ j, a ∈ Fs1 j) ∨ H1 a = none)) ∧ (∀ i, D ∉ fsetL Fs4 vs i) ∧ ¬ Z4 D := fun {T4 Z4 H4 e4 Fs4} S4 t4 hsub => by
                have tt := t'.trans t4 (T := tor Tg (tor Tt Te)) fun j hj => ⟨hj, (hsub j).resolve_right (by rw [hj]; exact Bool.false_ne_true)⟩
                have hD4 : H4 D = some (.lst accV) := t4.keep D _ hDD d1
                have th := ra.there
                have a4 : ∀ a ∈ Fa, H4 a = H' a := fun a ha => by
                  obtain ⟨o, e⟩ := th a ha
                  rw [e]
                  exact t4.keep a o e (pa a ha).1
                refine ⟨S4.dropL l3.symm σo, ⟨tt.z, tt.zn, tt.keep, tt.gr, fun j a ha => tt.new j a (fsetL_mem ha).1, fun j hj => ?_, dropL_len.2.trans tt.p⟩, hD4, Reps.stay (t4.stay S') ra a4, fun a ha => ⟨fun j z => ?_, fun z => ?_, (pa a ha).2.2⟩, fun j z => ?_, fun z => ?_⟩
                · obtain ⟨u1, u2, u3⟩ := tt.un j hj
                  by_cases hj' : j ∈ vs
                  · refine ⟨?_, by rw [fsetL_in hj', fsetL_in hj'], u3⟩
                    exact dropL_same hj' (by rw [S4.len, l3, ← SD.len, dropL_len.1])
                  · exact ⟨by rw [dropL_out hj']; exact u1, by rw [fsetL_out hj']; exact u2, u3⟩
                · obtain ⟨o, e⟩ := th a ha
                  rcases t4.new j a (fsetL_mem z).1 with ⟨k, z⟩ | z
                  · exact (pa a ha).1 k z
                  · rw [e] at z; cases z
                · obtain ⟨o, e⟩ := th a ha
                  rcases t4.zn a z with z | ⟨k, z⟩ | z
                  · exact (pa a ha).2.1 z
                  · exact (pa a ha).1 k z
                  · rw [e] at z; cases z
                · rcases t4.new j D (fsetL_mem z).1 with ⟨k, z⟩ | z
                  · exact d1 k z
                  · rw [hDD] at z; cases z
                · rcases t4.zn D z with z | ⟨k, z⟩ | z
                  · exact d2 z
                  · exact d1 k z
                  · rw [hDD] at z; cases z
              cases qt : ft e2 with
              | err => rw [qt] at hl; cases hl
              | exc x fs e3 => rw [qt] at hl; cases hl
              | ok b e3 =>
                rw [qt] at hl
                intro H5 Z5 Fs5 S5 t5
                have t05 : Tr (tor Tg Tt) Z' H' env' Fs' Z5 H5 e3 Fs5 := t03.trans t5 tor_sub
                cases b with
                | false =>
                  dsimp only at hl
                  rw [if_neg Bool.false_ne_true]
                  obtain ⟨b1, b2, b3, b4, b5, b6, b7⟩ := back S5 t05 fun j => by
                    cases e1 : Tg j <;> cases e2 : Tt j <;> simp [e1, e2]
                  exact ⟨Z5, e3.dropL vs, fsetL Fs5 vs, acc, accV, Fa, b1, b2, fun j hj d => dropL_in hj d, b3, b4, na, b5, b6, b7, d3, hl⟩
                | true =>
                  dsimp only at hl
                  rw [if_pos rfl]
                  refine ⟨Z5, e3, Fs5, S5, ?_⟩
                  cases qe : fe e3 with
                  | err => rw [qe] at hl; cases hl
                  | exc x fs e4 => rw [qe] at hl; cases hl
                  | ok yd e4 =>
                    rw [qe] at hl
                    dsimp only at hl
                    split at hl
                    · rename_i hlt
                      intro yv H6 Z6 Fs6 Fy S6 t6 ry py
                      have t06 : Tr (tor (tor Tg Tt) Te) Z' H' env' Fs' Z6 H6 e4 Fs6 := t05.trans t6 tor_sub
                      obtain ⟨b1, b2, b3, b4, b5, b6, b7⟩ := back S6 t06 fun j => by
                        cases e1 : Tg j <;> cases e2 : Tt j <;> cases e3 : Te j <;> simp [e1, e2, e3]
                      have nDy : D ∉ Fy := fun z => by
                        rcases (py.2 D z).2.2 with ⟨j, z⟩ | z
                        · rcases t05.new j D z with ⟨k, z⟩ | z
                          · exact d1 k z
                          · rw [hDD] at z; cases z
                        · rw [t05.keep D _ hDD d1] at z; cases z
                      refine ⟨accV, b3, by rw [ra.length, sizeLine_eq]; exact hlt, Z6, e4.dropL vs, fsetL Fs6 vs, acc ++ [yd], accV ++ [yv], Fa ++ Fy, b1.fore b6 b7, b2.fore hD fun j z => ?_, fun j hj d => dropL_in hj d, upd_same, ?_, ?_, fun a ha => ?_, b6, b7, ?_, hl⟩
                      · obtain ⟨o, e⟩ := S1.tr (fsetL_mem z).1
                        rw [hD] at e; cases e
                      · have st : Stay Z6 Z6 H6 (upd H6 D (.lst (accV ++ [yv]))) := ⟨fun _ h => h, fun a ha => upd_ne (fun e => by subst e; exact b7 ha)⟩
                        exact Reps.app (Reps.stay st b4 fun a ha => upd_ne (fun e => by subst e; exact d3 ha)) (Reps.one (ry.stay st fun a ha => upd_ne (fun e => by subst e; exact nDy ha)))
                      · refine List.nodup_append.mpr ⟨na, py.1, fun a ha b hb e => ?_⟩
                        subst e
                        obtain ⟨o, e⟩ := ra.there a ha
                        rcases (py.2 a hb).2.2 with ⟨j, z⟩ | z
                        · rcases t05.new j a z with ⟨k, z⟩ | z
                          · exact (pa a ha).1 k z
                          · rw [e] at z; cases z
                        · rw [t05.keep a o e (pa a ha).1] at z; cases z
                      · rcases List.mem_append.mp ha with ha | ha
                        · exact b5 a ha
                        · refine ⟨fun j z => (py.2 a ha).1 j (fsetL_mem z).1, (py.2 a ha).2.1, ?_⟩
                          have t15 := t'.trans t05 (T := fun _ => true) fun i q => by cases q
                          rcases (py.2 a ha).2.2 with ⟨j, z⟩ | z
                          · rcases t15.new j a z with ⟨k, z⟩ | z
                            · exact .inl ⟨k, (fsetL_mem z).1⟩
                            · exact .inr z
                          · exact .inr (t15.gr a z)
                      · intro z
                        exact (List.mem_append.mp z).elim d3 nDy
                    · cases hl
        · rintro H' ⟨Z', env', Fs', acc, accV, Fa, S', t', hn, hDD, ra, na, pa, d1, d2, d3, hl⟩
          rw [List.drop_length] at hl
          simp only [compLoop, pur, Out.ok.injEq] at hl
          obtain ⟨rfl, rfl⟩ := hl
          refine c (.ref D) H' Z' Fs' (D :: Fa) (SR.restL S1 S' (t'.stay SD) (wipe_length _ _) (fun j hj => wipe_out hj) hn hsv) ⟨t'.z, fun a z => ?_, fun a o e n => t'.keep a o e fun i z => n i (fsetL_mem z).1, t'.gr, fun j a ha => ?_, fun j hj => ?_, restL_len.2.trans (t'.p.trans dropL_len.2)⟩ ?_ ⟨List.nodup_cons.mpr ⟨d3, na⟩, fun a ha => ?_⟩
          · rcases t'.zn a z with z | ⟨k, z⟩ | z
            · exact .inl z
            · exact .inr (.inl ⟨k, (fsetL_mem z).1⟩)
            · exact .inr (.inr z)
          · rcases t'.new j a ha with ⟨k, z⟩ | z
            · exact .inl ⟨k, (fsetL_mem z).1⟩
            · exact .inr z
          · by_cases hj' : j ∈ vs
            · have f1 : Fs1 j = [] := by
                cases q1 : e1.s[j]? with
                | none => exact S1.no j fun d z => by rw [q1] at z; cases z
                | some o =>
                  cases o with
                  | none => exact S1.no j fun d z => by rw [q1] at z; cases z
                  | some d =>
                    obtain ⟨v, z1, z2⟩ := S1.rep j d q1
                    refine z2.unown ?_
                    have := List.all_eq_true.mp hsv j hj'
                    rw [q1] at this
                    simpa using this
              refine ⟨restL_in (by rw [S'.len, wipe_length, S1.len]) hj', by rw [f1, S'.no j (hn j hj')], fun a ha => by rw [f1] at ha; cases ha⟩
            · obtain ⟨u1, u2, u3⟩ := t'.un j (by simp [Tgn j hj', tor_sub j hj])
              exact ⟨by rw [restL_out hj', u1, dropL_out hj'], by rw [u2, fsetL_out hj'], fun a ha => u3 a (by rw [fsetL_out hj']; exact ha)⟩
          · simp only [Rep]
            exact ⟨D, accV, Fa, rfl, hDD, ra, rfl⟩
          · rcases List.mem_cons.mp ha with rfl | ha
            · exact ⟨d1, d2, .inr hD⟩
            · exact pa a ha
    · exact c.elim
end
end VI
/-! V11: list comprehensions as values -/
namespace VI
open PySem PySem.Spec L2
section
variable {X : Cx} {elt tg iter : Expr} {ifs : List Expr} {scope : Scope} {own : List (Str × Nat)} {pos : Pos} {fi : M (List D)} {gt : D → M Unit} {ft : M Bool} {fe : M D} {Ti Tg Tt Te : Nat → Bool} {srcs : List Nat}
theorem takes0 {X : Cx} : Takes X (fun _ _ _ _ => False) := fun u s' h => by
  obtain ⟨_, _, _, _, h⟩ := h
  simp at h
theorem ve_lc (hc : X.calm = true) (hN : X.N.Nodup) (ok : blkC X.N X.env.scope scope own = true) (hi : VI X tg iter fi Ti srcs)
    (hg : ∀ (s : Shared) (H : Hp) (C : Addr) (cl : List (Str × Addr)) (fp : List Addr), VGt (X.blk s H scope (compEnvC scope cl C X.env) fp) tg gt Tg)
    (ht : ∀ (s : Shared) (H : Hp) (C : Addr) (cl : List (Str × Addr)) (fp : List Addr), VTs (X.blk s H scope (compEnvC scope cl C X.env) fp) ifs ft Tt)
    (he : ∀ (s : Shared) (H : Hp) (C : Addr) (cl : List (Str × Addr)) (fp : List Addr), VE (X.blk s H scope (compEnvC scope cl C X.env) fp) elt fe Te none)
    (hT : ∀ j, Tg j = true → j ∈ own.map (·.2)) (hu : ∀ i ∈ srcs, i ∉ own.map (·.2) ∧ Tt i = false ∧ Te i = false) (hs : ∀ x, foldedSetIterable iter X.env x = pure x := by intro _; rfl) :
    VE X (.ListComp elt [⟨tg, iter, ifs, 0⟩] scope pos) (compM (own.map (·.2)) fi gt ft fe) (tor Ti (tor Tt Te)) none := by
  refine ⟨fun W tk => pe_imp (pe_lc (wi := tI X.K X.mg fi Ti srcs W) (g := tGt X.K X.mg gt Tg) (tt := tT X.K X.mg ft Tt (fun _ _ _ _ => False)) (te := tE X.K X.mg fe Te none (fun _ _ _ _ => False)) hc hN (hi.run W tk) (blkOk_by ok) (fun s H C cl fp => (hg s H C cl fp).run) (fun s H C cl fp => (ht s H C cl fp).run _ takes0) (fun s H C cl fp => (he s H C cl fp).run _ takes0) hs) fun σ H Q h => ?_⟩
  exact comp_read hT hu h
end
end VI
/-! V12: operations on values -/
namespace VI
open PySem PySem.Spec L2

theorem res_flat {K : PySem.W.Frag} {mg : Mg} {Z : Addr → Prop} {H : Hp} {d : D} {v : V} {Q : VK} (zs : ∀ a, Z a → ∃ o, H a = some o) (h : Res K mg Z H d Q) (r : Rep K mg Z H d v []) : Q v H := h v H Z [] (Alloc.refl zs) r
theorem OpD.or {X : Cx} {f : Value → Value → Sem Value} {g g1 g2 : D → D → Option D} (h1 : OpD X f g1) (h2 : OpD X f g2) (h : ∀ a b d, g a b = some d → g1 a b = some d ∨ g2 a b = some d) : OpD X f g := by
  obtain ⟨r1, o1, q1⟩ := h1
  obtain ⟨r2, o2, q2⟩ := h2
  refine ⟨_, OpR.or o1 o2, fun {Z H d1 d2 d v1 v2 F1 F2 Q} zs ra rb e res => ?_⟩
  rcases h _ _ _ e with e | e
  · exact .inl (q1 zs ra rb e res)
  · exact .inr (q2 zs ra rb e res)
/-- an operation of two ints -/
theorem opd_int {X : Cx} {f : Value → Value → Sem Value} {C : Int → Int → Prop} {g : Int → Int → V} {gd : D → D → Option D} (h : OpR X f (rI C g))
    (q : ∀ d1 d2 d, gd d1 d2 = some d → ∃ i j, d1 = .int i ∧ d2 = .int j ∧ C i j ∧ ((∃ k, d = .int k ∧ g i j = .int k) ∨ ∃ b, d = .bl b ∧ g i j = .bl b)) : OpD X f gd := by
  refine ⟨_, h, fun {Z H d1 d2 d v1 v2 F1 F2 Q} zs ra rb e res => ?_⟩
  obtain ⟨i, j, rfl, rfl, hC, hk⟩ := q _ _ _ e
  simp only [Rep] at ra rb
  refine ⟨i, j, ra.1, rb.1, hC, ?_⟩
  rcases hk with ⟨k, rfl, ek⟩ | ⟨k, rfl, ek⟩
  · rw [ek]
    exact res_flat zs res (by simp [Rep])
  · rw [ek]
    exact res_flat zs res (by simp [Rep])
theorem opd_int0 {X : Cx} {f : Value → Value → Sem Value} {g : Int → Int → V} {gd : D → D → Option D} (h : OpR X f (rI0 g))
    (q : ∀ d1 d2 d, gd d1 d2 = some d → ∃ i j, d1 = .int i ∧ d2 = .int j ∧ ((∃ k, d = .int k ∧ g i j = .int k) ∨ ∃ b, d = .bl b ∧ g i j = .bl b)) : OpD X f gd := by
  refine ⟨_, h, fun {Z H d1 d2 d v1 v2 F1 F2 Q} zs ra rb e res => ?_⟩
  obtain ⟨i, j, rfl, rfl, hk⟩ := q _ _ _ e
  simp only [Rep] at ra rb
  refine ⟨i, j, ra.1, rb.1, ?_⟩
  rcases hk with ⟨k, rfl, ek⟩ | ⟨k, rfl, ek⟩
  · rw [ek]
    exact res_flat zs res (by simp [Rep])
  · rw [ek]
    exact res_flat zs res (by simp [Rep])
def subD : D → D → Option D
  | .int i, .int j => some (.int (i - j))
  | _, _ => none
def mulI : D → D → Option D
  | .int i, .int j => if (decide (-(2 ^ 64) < i) && decide (i < 2 ^ 64)) || (decide (-(2 ^ 64) < j) && decide (j < 2 ^ 64)) then some (.int (i * j)) else none
  | _, _ => none
def fdivD : D → D → Option D
  | .int i, .int j => if decide (0 < j) && decide (j < 1073741824) then some (.int (i / j)) else none
  | _, _ => none
def modD : D → D → Option D
  | .int i, .int j => if decide (0 < j) then some (.int (i % j)) else none
  | _, _ => none
def powD : D → D → Option D
  | .int i, .int j => if decide (0 ≤ j) && decide (j ≤ 1000000) && decide (i.natAbs < 2 ^ 64) then some (.int (i ^ j.toNat)) else none
  | _, _ => none
def leD : D → D → Option D
  | .int i, .int j => some (.bl (decide (i ≤ j)))
  | _, _ => none
def gtD : D → D → Option D
  | .int i, .int j => some (.bl (decide (j < i)))
  | _, _ => none
def geD : D → D → Option D
  | .int i, .int j => some (.bl (decide (j ≤ i)))
  | _, _ => none
def ltI : D → D → Option D
  | .int i, .int j => some (.bl (decide (i < j)))
  | _, _ => none
def ltS : D → D → Option D
  | .str i, .str j => some (.bl (decide (i.cps.toList < j.cps.toList)))
  | _, _ => none
def ltD : D → D → Option D
  | .int i, .int j => some (.bl (decide (i < j)))
  | .str i, .str j => some (.bl (decide (i.cps.toList < j.cps.toList)))
  | _, _ => none
def addI : D → D → Option D
  | .int i, .int j => some (.int (i + j))
  | _, _ => none
def addS : D → D → Option D
  | .str x, .str y => if x.length + y.length ≤ 16777216 then some (.str (x ++ y)) else none
  | _, _ => none
def addL : D → D → Option D
  | .lst _ xs, .lst _ ys => if D.owns xs || D.owns ys then none else if xs.length + ys.length ≤ 16777216 then some (.lst true (xs ++ ys)) else none
  | _, _ => none
def addT : D → D → Option D
  | .tup xs, .tup ys => if D.owns xs || D.owns ys then none else if xs.length + ys.length ≤ 16777216 then some (.tup (xs ++ ys)) else none
  | _, _ => none
/-- a thing of the heap -/
def refB : D → Bool
  | .non => false
  | .bl _ => false
  | .int _ => false
  | .str _ => false
  | _ => true
def addD : D → D → Option D
  | .int i, .int j => some (.int (i + j))
  | .str x, .str y => if x.length + y.length ≤ 16777216 then some (.str (x ++ y)) else none
  | .lst _ xs, .lst _ ys => if D.owns xs || D.owns ys then none else if xs.length + ys.length ≤ 16777216 then some (.lst true (xs ++ ys)) else none
  | .tup xs, .tup ys => if D.owns xs || D.owns ys then none else if xs.length + ys.length ≤ 16777216 then some (.tup (xs ++ ys)) else none
  | _, _ => none
def isND : D → D → Option D
  | .non, .non => some (.bl true)
  | _, .non => some (.bl false)
  | _, _ => none
def notND : D → D → Option D
  | .non, .non => some (.bl false)
  | _, .non => some (.bl true)
  | _, _ => none
/-- a text's sign within a text -/
def inSD : D → D → Option D
  | .str x, .str z => match x.cps.toList with
    | [c] => some (.bl (decide (c ∈ z.cps.toList)))
    | _ => none
  | _, _ => none
def ninSD : D → D → Option D
  | .str x, .str z => match x.cps.toList with
    | [c] => some (.bl (!decide (c ∈ z.cps.toList)))
    | _ => none
  | _, _ => none
def negD : D → Option D
  | .int i => some (.int (-i))
  | _ => none
section
variable {X : Cx}
theorem od_sub : OpD X (binaryOp .Sub) subD := opd_int0 op_sub fun d1 d2 d e => by
  unfold subD at e
  split at e <;> cases e
  exact ⟨_, _, rfl, rfl, .inl ⟨_, rfl, rfl⟩⟩
theorem od_addI : OpD X (binaryOp .Add) addI := opd_int0 op_add fun d1 d2 d e => by
  unfold addI at e
  split at e <;> cases e
  exact ⟨_, _, rfl, rfl, .inl ⟨_, rfl, rfl⟩⟩
theorem od_mulI : OpD X (binaryOp .Mult) mulI := opd_int op_mul fun d1 d2 d e => by
  unfold mulI at e
  split at e
  · split at e
    · rename_i h
      cases e
      exact ⟨_, _, rfl, rfl, by simpa [CMul] using h, .inl ⟨_, rfl, rfl⟩⟩
    · cases e
  · cases e
theorem od_fdiv : OpD X (binaryOp .FloorDiv) fdivD := opd_int op_fdiv fun d1 d2 d e => by
  unfold fdivD at e
  split at e
  · split at e
    · rename_i h
      cases e
      exact ⟨_, _, rfl, rfl, by simpa [CDiv] using h, .inl ⟨_, rfl, rfl⟩⟩
    · cases e
  · cases e
theorem od_mod : OpD X (binaryOp .Mod) modD := opd_int op_mod fun d1 d2 d e => by
  unfold modD at e
  split at e
  · split at e
    · rename_i h
      cases e
      exact ⟨_, _, rfl, rfl, by simpa using h, .inl ⟨_, rfl, rfl⟩⟩
    · cases e
  · cases e
theorem od_pow : OpD X (binaryOp .Pow) powD := opd_int op_pow fun d1 d2 d e => by
  unfold powD at e
  split at e
  · split at e
    · rename_i h
      cases e
      simp only [Bool.and_eq_true, decide_eq_true_eq] at h
      exact ⟨_, _, rfl, rfl, ⟨h.1.1, h.1.2, h.2⟩, .inl ⟨_, rfl, rfl⟩⟩
    · cases e
  · cases e
theorem od_le : OpD X (compareOp .LtE) leD := opd_int0 op_le fun d1 d2 d e => by
  unfold leD at e
  split at e <;> cases e
  exact ⟨_, _, rfl, rfl, .inr ⟨_, rfl, rfl⟩⟩
theorem od_gt : OpD X (compareOp .Gt) gtD := opd_int0 op_gt fun d1 d2 d e => by
  unfold gtD at e
  split at e <;> cases e
  exact ⟨_, _, rfl, rfl, .inr ⟨_, rfl, rfl⟩⟩
theorem od_ge : OpD X (compareOp .GtE) geD := opd_int0 op_ge fun d1 d2 d e => by
  unfold geD at e
  split at e <;> cases e
  exact ⟨_, _, rfl, rfl, .inr ⟨_, rfl, rfl⟩⟩
theorem od_ltI : OpD X (compareOp .Lt) ltI := opd_int0 op_lt fun d1 d2 d e => by
  unfold ltI at e
  split at e <;> cases e
  exact ⟨_, _, rfl, rfl, .inr ⟨_, rfl, rfl⟩⟩
theorem od_ltS : OpD X (compareOp .Lt) ltS := by
  refine ⟨_, op_lt_str, fun {Z H d1 d2 d v1 v2 F1 F2 Q} zs ra rb e res => ?_⟩
  unfold ltS at e
  split at e <;> cases e
  simp only [Rep] at ra rb
  exact ⟨_, _, ra.1, rb.1, res_flat zs res (by simp [Rep])⟩
theorem od_lt : OpD X (compareOp .Lt) ltD := OpD.or od_ltI od_ltS fun a b d e => by
  unfold ltD at e
  split at e <;> cases e
  · exact .inl rfl
  · exact .inr rfl
theorem od_addS : OpD X (binaryOp .Add) addS := by
  refine ⟨_, op_add_str, fun {Z H d1 d2 d v1 v2 F1 F2 Q} zs ra rb e res => ?_⟩
  unfold addS at e
  split at e
  · split at e
    · rename_i h
      cases e
      simp only [Rep] at ra rb
      exact ⟨_, _, ra.1, rb.1, by rw [sizeLine_eq]; exact h, res_flat zs res (by simp [Rep])⟩
    · cases e
  · cases e
/-- list + list -/
def rCatQ (K : PySem.W.Frag) : R2 := fun x y H Q => ∃ l b xs zs, x = .ref l ∧ y = .ref b ∧ SqL K H l xs ∧ SqL K H b zs ∧ xs.length + zs.length ≤ sizeLine ∧ ∀ p, H p = none → Q (.ref p) (upd H p (.lst (xs ++ zs)))
theorem op_catQ : OpR X (binaryOp .Add) (rCatQ X.K) := by
  intro pins s σ H x y v u Q I rx ry h
  obtain ⟨l, b, xs, zs, rfl, rfl, hH, hB, hz, q⟩ := h
  cases rx
  cases ry
  obtain ⟨its, r, ⟨⟨cls, dd, data, sl⟩, n, ho, hc, hdd, hd⟩, hs⟩ := I.list hH
  obtain ⟨its2, r2, ⟨⟨cls2, dd2, data2, sl2⟩, n2, ho2, hc2, hdd2, hd2⟩, hs2⟩ := I.list hB
  simp only at hc hd hc2 hd2 hdd hdd2
  subst hc hd hc2 hd2 hdd hdd2
  have l1 := r.length
  have l2 := r2.length
  have hsz : its.toArray.size + its2.toArray.size ≤ sizeLine := by simp only [List.size_toArray]; omega
  have ea : its.toArray ++ its2.toArray = (its ++ its2).toArray := by simp
  refine concat_meets ⟨_, ho, rfl⟩ ⟨_, ho2, rfl⟩ noFill_list_add seq_list_add PySem.F.slot_list_add PySem.F.entry_list_add (PySem.F.args_list_add_2 _ _) (PyProof.Rows.list_addW l b its.toArray its2.toArray n n2 none none sl sl2 hsz) ⟨ho, ho2, ?_⟩
  rw [ea]
  exact ⟨.ref _, _, I.lnew (t' := s.toks) (r.append r2) (by rw [List.length_append]; omega), rfl, q _ I.fresh⟩
theorem tup_read {K : PySem.W.Frag} {mg : Mg} {Z : Addr → Prop} {H : Hp} {xs : List D} {v : V} {F : List Addr} (r : Rep K mg Z H (.tup xs) v F) : ∃ (a : Addr) (vs : List V), v = .ref a ∧ SqT K H a vs ∧ Reps K mg Z H xs vs F := by
  simp only [Rep] at r
  obtain ⟨a, vs, e, t, r⟩ := r
  exact ⟨a, vs, e, t.sq, r⟩
theorem od_addL : OpD X (binaryOp .Add) addL := by
  refine ⟨_, op_catQ, fun {Z H d1 d2 d v1 v2 F1 F2 Q} zs ra rb e res => ?_⟩
  unfold addL at e
  split at e
  · rename_i o1 xs o2 ys
    split at e
    · cases e
    · rename_i ho
      split at e
      · rename_i h
        cases e
        simp only [Bool.or_eq_true, not_or, Bool.not_eq_true] at ho
        obtain ⟨a, vs, G, _, rfl, s1, r1, _⟩ := lst_read ra
        obtain ⟨b, us, G2, _, rfl, s2, r2, _⟩ := lst_read rb
        refine ⟨a, b, vs, us, rfl, rfl, s1, s2, by rw [r1.length, r2.length, sizeLine_eq]; exact h, fun p hp => ?_⟩
        have e1 := r1.unown ho.1
        have e2 := r2.unown ho.2
        subst e1 e2
        have al : Alloc Z H Z (upd H p (.lst (vs ++ us))) [p] := Alloc.own hp zs
        refine res _ _ Z [p] al ?_
        simp only [Rep]
        exact ⟨p, _, [], rfl, upd_same, Reps.stay (al.stay zs) (Reps.app r1 r2) (fun _ h => by simp at h), rfl⟩
      · cases e
  · cases e
theorem od_addT : OpD X (binaryOp .Add) addT := by
  refine ⟨_, op_catA, fun {Z H d1 d2 d v1 v2 F1 F2 Q} zs ra rb e res => ?_⟩
  unfold addT at e
  split at e
  · rename_i xs ys
    split at e
    · cases e
    · rename_i ho
      split at e
      · rename_i h
        cases e
        simp only [Bool.or_eq_true, not_or, Bool.not_eq_true] at ho
        have ra' := ra
        have rb' := rb
        obtain ⟨a, vs, rfl, s1, r1⟩ := tup_read ra
        obtain ⟨b, us, rfl, s2, r2⟩ := tup_read rb
        have e1 := r1.unown ho.1
        have e2 := r2.unown ho.2
        subst e1 e2
        have l1 := r1.length
        have l2 := r2.length
        refine ⟨a, b, vs, us, rfl, rfl, s1, s2, by rw [l1, l2, sizeLine_eq]; exact h, fun hx => ?_, fun hx hy => ?_, fun hx hy p hp => ?_⟩
        · subst hx
          have : xs = [] := List.eq_nil_of_length_eq_zero (by simpa using l1.symm)
          subst this
          exact res_flat zs res (by simpa using rb')
        · subst hy
          have : ys = [] := List.eq_nil_of_length_eq_zero (by simpa using l2.symm)
          subst this
          exact res_flat zs res (by simpa using ra')
        · have al : Alloc Z H (fun a => Z a ∨ a = p) (upd H p (.tup (vs ++ us))) [] := Alloc.tup hp
          refine res _ _ _ [] al ?_
          simp only [Rep]
          exact ⟨p, _, rfl, .inl ⟨.inr rfl, .inl upd_same⟩, Reps.stay (al.stay zs) (Reps.app r1 r2) (fun _ h => by simp at h)⟩
      · cases e
  · cases e
theorem od_add : OpD X (binaryOp .Add) addD := OpD.or (OpD.or od_addI od_addS (g := fun a b => match a, b with | .int i, .int j => addI a b | .str _, .str _ => addS a b | _, _ => none) fun a b d e => by
    split at e
    · exact .inl e
    · exact .inr e
    · cases e) (OpD.or od_addL od_addT (g := fun a b => match a, b with | .lst _ _, .lst _ _ => addL a b | .tup _, .tup _ => addT a b | _, _ => none) fun a b d e => by
    split at e
    · exact .inl e
    · exact .inr e
    · cases e) fun a b d e => by
  unfold addD at e
  split at e
  · exact .inl e
  · exact .inl e
  · exact .inr e
  · exact .inr e
  · cases e
theorem rep_ref {K : PySem.W.Frag} {mg : Mg} {Z : Addr → Prop} {H : Hp} : ∀ {d : D} {v : V} {F : List Addr}, Rep K mg Z H d v F → refB d = true → ∃ a, v = .ref a
  | .tup _, _, _, h, _ => by
    simp only [Rep] at h
    obtain ⟨a, _, e, _⟩ := h
    exact ⟨a, e⟩
  | .lst true _, _, _, h, _ => by
    simp only [Rep] at h
    obtain ⟨a, _, _, e, _⟩ := h
    exact ⟨a, e⟩
  | .lst false _, _, _, h, _ => by
    simp only [Rep] at h
    obtain ⟨a, _, e, _⟩ := h
    exact ⟨a, e⟩
  | .dct true _, _, _, h, _ => by
    simp only [Rep] at h
    obtain ⟨a, _, _, _, e, _⟩ := h
    exact ⟨a, e⟩
  | .dct false _, _, _, h, _ => by
    simp only [Rep] at h
    obtain ⟨a, _, _, e, _⟩ := h
    exact ⟨a, e⟩
  | .ins true _ _, _, _, h, _ => by
    simp only [Rep] at h
    obtain ⟨a, _, _, _, _, e, _⟩ := h
    exact ⟨a, e⟩
  | .ins false _ _, _, _, h, _ => by
    simp only [Rep] at h
    obtain ⟨a, _, _, _, e, _⟩ := h
    exact ⟨a, e⟩
  | .exc _ _, _, _, h, _ => by
    simp only [Rep] at h
    obtain ⟨a, _, _, _, e, _⟩ := h
    exact ⟨a, e⟩
theorem isN_b {K : PySem.W.Frag} {mg : Mg} {Z : Addr → Prop} {H : Hp} {d d2 r : D} {v : V} {F : List Addr} (ra : Rep K mg Z H d v F) (e : isND d d2 = some r) : d2 = .non ∧ r = .bl (decide (v = .non)) := by
  have hb : d2 = .non := by
    cases d <;> cases d2 <;> first | rfl | cases e
  subst hb
  refine ⟨rfl, ?_⟩
  by_cases q : refB d = true
  · obtain ⟨a, rfl⟩ := rep_ref ra q
    cases d <;> first | (exact absurd q Bool.false_ne_true) | (cases e; simp)
  · cases d <;> first | (exact absurd rfl q) | (simp only [Rep] at ra; obtain ⟨rfl, _⟩ := ra; cases e; simp)
theorem od_isN : OpD X (compareOp .Is) isND := by
  refine ⟨_, op_isN, fun {Z H d1 d2 d v1 v2 F1 F2 Q} zs ra rb e res => ?_⟩
  obtain ⟨rfl, rfl⟩ := isN_b ra e
  simp only [Rep] at rb
  exact ⟨rb.1, res_flat zs res (by simp [Rep])⟩
theorem od_notN : OpD X (compareOp .IsNot) notND := by
  refine ⟨_, op_notN, fun {Z H d1 d2 d v1 v2 F1 F2 Q} zs ra rb e res => ?_⟩
  have e' : ∃ b, isND d1 d2 = some (.bl b) ∧ d = .bl (!b) := by
    cases d1 <;> cases d2 <;> first | (cases e; exact ⟨_, rfl, rfl⟩) | cases e
  obtain ⟨b, e1, rfl⟩ := e'
  obtain ⟨rfl, hb⟩ := isN_b ra e1
  cases hb
  simp only [Rep] at rb
  exact ⟨rb.1, res_flat zs res (by simp [Rep])⟩
theorem od_inS : OpD X (compareOp .In) inSD := by
  refine ⟨_, op_in_sign, fun {Z H d1 d2 d v1 v2 F1 F2 Q} zs ra rb e res => ?_⟩
  unfold inSD at e
  split at e
  · rename_i x z
    split at e
    · rename_i c hc
      cases e
      simp only [Rep] at ra rb
      refine ⟨c, z, ?_, rb.1, res_flat zs res (by simp [Rep])⟩
      rw [ra.1]
      congr 1
      cases x
      simp only at hc
      rw [← hc]
    · cases e
  · cases e
theorem od_ninS : OpD X (compareOp .NotIn) ninSD := by
  refine ⟨_, op_notIn_sign, fun {Z H d1 d2 d v1 v2 F1 F2 Q} zs ra rb e res => ?_⟩
  unfold ninSD at e
  split at e
  · rename_i x z
    split at e
    · rename_i c hc
      cases e
      simp only [Rep] at ra rb
      refine ⟨c, z, ?_, rb.1, res_flat zs res (by simp [Rep])⟩
      rw [ra.1]
      congr 1
      cases x
      simp only at hc
      rw [← hc]
    · cases e
  · cases e
theorem ud_neg : UnD X (unaryOp .USub) negD := by
  refine ⟨_, un_neg, fun {Z H d1 d v1 F1 Q} zs ra e res => ?_⟩
  unfold negD at e
  split at e <;> cases e
  simp only [Rep] at ra
  exact ⟨_, ra.1, res_flat zs res (by simp [Rep])⟩
end
end VI
/-! V13: equality, len, places, isinstance -/
namespace VI
open PySem PySem.Spec L2

mutual
def D.dat : D → Option PyData
  | .non => some .none
  | .bl b => some (.bool b)
  | .int i => some (.int i)
  | .str x => some (.str x)
  | .tup xs => match D.dats xs with
    | some ys => some (.tuple ys)
    | none => none
  | .lst _ xs => match D.dats xs with
    | some ys => some (.list ys)
    | none => none
  | _ => none
def D.dats : List D → Option (List PyData)
  | [] => some []
  | x :: xs => match x.dat, D.dats xs with
    | some y, some ys => some (y :: ys)
    | _, _ => none
end
section
variable {K : PySem.W.Frag} {mg : Mg} {Z : Addr → Prop} {H : Hp}
theorem lst_sq {o : Bool} {xs : List D} {v : V} {F : List Addr} (r : Rep K mg Z H (.lst o xs) v F) : ∃ a vs G, v = .ref a ∧ SqL K H a vs ∧ Reps K mg Z H xs vs G := by
  obtain ⟨a, vs, G, _, e, s, r, _⟩ := lst_read r
  exact ⟨a, vs, G, e, s, r⟩
mutual
theorem rep_dp : ∀ {d : D} {v : V} {F : List Addr} {p : PyData}, Rep K mg Z H d v F → d.dat = some p → Dp K H v p
  | .non, v, F, p, r, h => by
    simp only [Rep, D.dat, Option.some.injEq] at r h
    subst h; rw [r.1]; exact .non
  | .bl b, v, F, p, r, h => by
    simp only [Rep, D.dat, Option.some.injEq] at r h
    subst h; rw [r.1]; exact .bl b
  | .int b, v, F, p, r, h => by
    simp only [Rep, D.dat, Option.some.injEq] at r h
    subst h; rw [r.1]; exact .int b
  | .str b, v, F, p, r, h => by
    simp only [Rep, D.dat, Option.some.injEq] at r h
    subst h; rw [r.1]; exact .str b
  | .tup xs, v, F, p, r, h => by
    obtain ⟨a, vs, rfl, s, r⟩ := tup_read r
    unfold D.dat at h
    split at h
    · rename_i ys e
      cases h
      exact .tup s (reps_dp r e)
    · cases h
  | .lst o xs, v, F, p, r, h => by
    obtain ⟨a, vs, G, rfl, s, r⟩ := lst_sq r
    unfold D.dat at h
    split at h
    · rename_i ys e
      cases h
      exact .lst s (reps_dp r e)
    · cases h
  | .dct _ _, _, _, _, _, h | .ins _ _ _, _, _, _, _, h | .exc _ _, _, _, _, _, h => by simp [D.dat] at h
theorem reps_dp : ∀ {xs : List D} {vs : List V} {F : List Addr} {ps : List PyData}, Reps K mg Z H xs vs F → D.dats xs = some ps → DpAll K H vs ps
  | [], vs, F, ps, r, h => by
    simp only [Reps, D.dats, Option.some.injEq] at r h
    subst h; rw [r.1]; exact .nil
  | x :: xs, vs, F, ps, r, h => by
    simp only [Reps] at r
    obtain ⟨v, us, F1, F2, rfl, r1, r2, _⟩ := r
    unfold D.dats at h
    split at h
    · rename_i y ys e1 e2
      cases h
      exact .cons (rep_dp r1 e1) (reps_dp r2 e2)
    · cases h
end
end
/-- both as data -/
def datEq (a b : D) : Option Bool := match a.dat, b.dat with
  | some p, some q => if p.canLay0 && q.canLay0 && decide (min p.depth q.depth ≤ 150) then some (PyData.eqv p q) else none
  | _, _ => none
def eqB : D → D → Option Bool
  | .non, .non => some true
  | .non, .int _ => some false
  | .int _, .non => some false
  | .non, .bl _ => some false
  | .bl _, .non => some false
  | .non, .str _ => some false
  | .str _, .non => some false
  | .int i, .int j => some (decide (i = j))
  | .bl i, .bl j => some (decide (i = j))
  | .str i, .str j => some (decide (i = j))
  | .int _, .str _ => some false
  | .str _, .int _ => some false
  | .bl _, .str _ => some false
  | .str _, .bl _ => some false
  | .lst o xs, .lst o' ys => if xs.length = ys.length then datEq (.lst o xs) (.lst o' ys) else some false
  | .tup [], .tup [] => some true
  | .tup [], .tup (_ :: _) => some false
  | .tup (_ :: _), .tup [] => some false
  | a, b => datEq a b
def eqD (a b : D) : Option D := (eqB a b).map .bl
def neD (a b : D) : Option D := (eqB a b).map fun x => .bl (!x)
/-- what one has for two values that are compared -/
def rEqW (K : PySem.W.Frag) (b : Bool) (r : Bool) : V → V → Hp → Prop := fun x y H => (scal x y = true ∧ b = decide (x = y)) ∨ (∃ d e, Dp K H x d ∧ Dp K H y e ∧ d.canLay0 = true ∧ e.canLay0 = true ∧ min d.depth e.depth ≤ 150 ∧ b = PyData.eqv d e) ∨
  (∃ p q xs ys, x = .ref p ∧ y = .ref q ∧ SqL K H p xs ∧ SqL K H q ys ∧ xs.length ≠ ys.length ∧ b = false) ∨ ∃ p q xs ys, x = .ref p ∧ y = .ref q ∧ SqT K H p xs ∧ SqT K H q ys ∧ (xs = [] ∨ ys = []) ∧ b = (xs.isEmpty && ys.isEmpty)
theorem eqB_read {K : PySem.W.Frag} {mg : Mg} {Z : Addr → Prop} {H : Hp} {d1 d2 : D} {v1 v2 : V} {F1 F2 : List Addr} {b : Bool} (ra : Rep K mg Z H d1 v1 F1) (rb : Rep K mg Z H d2 v2 F2) (e : eqB d1 d2 = some b) : rEqW K b true v1 v2 H := by
  have dq : datEq d1 d2 = some b → rEqW K b true v1 v2 H := fun e => by
    unfold datEq at e
    split at e
    · rename_i p q e1 e2
      split at e
      · rename_i hc
        cases e
        simp only [Bool.and_eq_true, decide_eq_true_eq] at hc
        exact .inr (.inl ⟨p, q, rep_dp ra e1, rep_dp rb e2, hc.1.1, hc.1.2, hc.2, rfl⟩)
      · cases e
    · cases e
  unfold eqB at e
  split at e
  all_goals first
    | (cases e; simp only [Rep] at ra rb; rw [ra.1, rb.1]; exact .inl ⟨rfl, by simp⟩)
    | skip
  · split at e
    · exact dq e
    · rename_i hl
      cases e
      obtain ⟨a, vs, G, rfl, s1, r1⟩ := lst_sq ra
      obtain ⟨c, us, G2, rfl, s2, r2⟩ := lst_sq rb
      exact .inr (.inr (.inl ⟨a, c, vs, us, rfl, rfl, s1, s2, by rw [r1.length, r2.length]; exact hl, rfl⟩))
  · cases e
    obtain ⟨a, vs, rfl, s1, r1⟩ := tup_read ra
    obtain ⟨c, us, rfl, s2, r2⟩ := tup_read rb
    simp only [Reps] at r1 r2
    exact .inr (.inr (.inr ⟨a, c, vs, us, rfl, rfl, s1, s2, .inl r1.1, by rw [r1.1, r2.1]; rfl⟩))
  · cases e
    obtain ⟨a, vs, rfl, s1, r1⟩ := tup_read ra
    obtain ⟨c, us, rfl, s2, r2⟩ := tup_read rb
    have l2 := r2.length
    simp only [Reps] at r1
    refine .inr (.inr (.inr ⟨a, c, vs, us, rfl, rfl, s1, s2, .inl r1.1, ?_⟩))
    cases us with
    | nil => simp at l2
    | cons => simp
  · cases e
    obtain ⟨a, vs, rfl, s1, r1⟩ := tup_read ra
    obtain ⟨c, us, rfl, s2, r2⟩ := tup_read rb
    have l1 := r1.length
    simp only [Reps] at r2
    refine .inr (.inr (.inr ⟨a, c, vs, us, rfl, rfl, s1, s2, .inr r2.1, ?_⟩))
    cases vs with
    | nil => simp at l1
    | cons => simp
  · exact dq e
section
variable {X : Cx}
theorem op_eqW (hu : X.A.units + 150 < cLine) : OpR X (compareOp .Eq) (fun x y H Q => ∃ b, rEqW X.K b true x y H ∧ Q (.bl b) H) := by
  intro pins s σ H x y v u Q I rx ry h
  obtain ⟨b, h, q⟩ := h
  rcases h with ⟨hs, rfl⟩ | ⟨d, e, hd, he, sd, se, hm, rfl⟩ | ⟨p, p', xs, ys, rfl, rfl, h1, h2, hl, rfl⟩ | ⟨p, p', xs, ys, rfl, rfl, h1, h2, hl, rfl⟩
  · exact op_eq pins s σ H x y v u Q I rx ry ⟨hs, q⟩
  · obtain ⟨as, r1⟩ := Dp.reads I d x v hd rx
    obtain ⟨bs, r2⟩ := Dp.reads I e y u he ry
    exact SeqAt.compareEq_reads r1 r2 sd se (by omega) ⟨.bl _, H, I, rfl, q⟩
  · cases rx
    cases ry
    obtain ⟨its, r1, p1, _⟩ := I.list h1
    obtain ⟨its2, r2, p2, _⟩ := I.list h2
    have l1 := r1.length
    have l2 := r2.length
    exact SeqAt.eq_list_lengthsAt p1.isList p2.isList (by simp only [List.size_toArray]; simp; omega) (by omega) ⟨.bl _, H, I, rfl, q⟩
  · cases rx
    cases ry
    obtain ⟨its, r1, p1, _⟩ := I.tuple h1
    obtain ⟨its2, r2, p2, _⟩ := I.tuple h2
    have l1 := r1.length
    have l2 := r2.length
    have h0 : its.length = 0 ∨ its2.length = 0 := hl.imp (fun e => by rw [← l1, e]; rfl) fun e => by rw [← l2, e]; rfl
    refine SeqAt.eq_tupleAt (e := fun _ => true) p1 p2 (by omega) (fun j j1 j2 => ?_) ⟨.bl _, H, I, rfl, ?_⟩
    · simp only [List.size_toArray] at j1 j2
      omega
    · have e : ((List.range (min its.toArray.size its2.toArray.size)).all (fun _ => true) && its.toArray.size == its2.toArray.size) = (xs.isEmpty && ys.isEmpty) := by
        simp only [List.size_toArray]
        rw [← l1, ← l2]
        cases xs <;> cases ys <;> simp_all <;> omega
      rw [e]
      exact q
theorem op_neW (hu : X.A.units + 150 < cLine) : OpR X (compareOp .NotEq) (fun x y H Q => ∃ b, rEqW X.K b true x y H ∧ Q (.bl (!b)) H) := by
  intro pins s σ H x y v u Q I rx ry h
  obtain ⟨b, h, q⟩ := h
  rcases h with ⟨hs, rfl⟩ | ⟨d, e, hd, he, sd, se, hm, rfl⟩ | ⟨p, p', xs, ys, rfl, rfl, h1, h2, hl, rfl⟩ | ⟨p, p', xs, ys, rfl, rfl, h1, h2, hl, rfl⟩
  · exact op_ne pins s σ H x y v u Q I rx ry ⟨hs, q⟩
  · obtain ⟨as, r1⟩ := Dp.reads I d x v hd rx
    obtain ⟨bs, r2⟩ := Dp.reads I e y u he ry
    exact SeqAt.compareNe_reads r1 r2 sd se (by omega) ⟨.bl _, H, I, rfl, q⟩
  · cases rx
    cases ry
    obtain ⟨its, r1, p1, _⟩ := I.list h1
    obtain ⟨its2, r2, p2, _⟩ := I.list h2
    have l1 := r1.length
    have l2 := r2.length
    exact SeqAt.RcNeAt.lists_lengths p1.isList p2.isList (by simp only [List.size_toArray]; simp; omega) (by omega) _ _ _ _ ⟨.bl _, H, I, rfl, q⟩
  · cases rx
    cases ry
    obtain ⟨its, r1, p1, _⟩ := I.tuple h1
    obtain ⟨its2, r2, p2, _⟩ := I.tuple h2
    have l1 := r1.length
    have l2 := r2.length
    have h0 : its.length = 0 ∨ its2.length = 0 := hl.imp (fun e => by rw [← l1, e]; rfl) fun e => by rw [← l2, e]; rfl
    refine SeqAt.RcNeAt.tuples (e := fun _ => true) p1 p2 (by omega) (fun j j1 j2 => ?_) _ _ _ _ ⟨.bl _, H, I, rfl, ?_⟩
    · simp only [List.size_toArray] at j1 j2
      omega
    · have e : ((List.range (min its.toArray.size its2.toArray.size)).all (fun _ => true) && its.toArray.size == its2.toArray.size) = (xs.isEmpty && ys.isEmpty) := by
        simp only [List.size_toArray]
        rw [← l1, ← l2]
        cases xs <;> cases ys <;> simp_all <;> omega
      rw [e]
      exact q
theorem od_eq (hu : X.A.units + 150 < cLine) : OpD X (compareOp .Eq) eqD := by
  refine ⟨_, op_eqW hu, fun {Z H d1 d2 d v1 v2 F1 F2 Q} zs ra rb e res => ?_⟩
  unfold eqD at e
  cases h : eqB d1 d2 with
  | none => rw [h] at e; cases e
  | some b =>
    rw [h] at e
    cases e
    exact ⟨b, eqB_read ra rb h, res_flat zs res (by simp [Rep])⟩
theorem od_ne (hu : X.A.units + 150 < cLine) : OpD X (compareOp .NotEq) neD := by
  refine ⟨_, op_neW hu, fun {Z H d1 d2 d v1 v2 F1 F2 Q} zs ra rb e res => ?_⟩
  unfold neD at e
  cases h : eqB d1 d2 with
  | none => rw [h] at e; cases e
  | some b =>
    rw [h] at e
    cases e
    exact ⟨b, eqB_read ra rb h, res_flat zs res (by simp [Rep])⟩
end
end VI
/-! V14: places within a value -/
namespace VI
open PySem PySem.Spec L2

inductive Stp where
  | ix (i : Nat)
  | key (k : Key)
  | fld (f : Str)
def dAt : List (D × D) → Key → Option D
  | [], _ => none
  | (k', x) :: r, k => if keyD k' = some k then some x else dAt r k
def dSet : List (D × D) → Key → D → List (D × D)
  | [], _, _ => []
  | (k', x) :: r, k, y => if keyD k' = some k then (k', y) :: r else (k', x) :: dSet r k y
def fAt : List (Str × D) → Str → Option D
  | [], _ => none
  | (k', x) :: r, k => if k == k' then some x else fAt r k
def fSet : List (Str × D) → Str → D → List (Str × D)
  | [], _, _ => []
  | (k', x) :: r, k, y => if k == k' then (k', y) :: r else (k', x) :: fSet r k y
def D.at1 : D → Stp → Option D
  | .lst _ xs, .ix i => xs[i]?
  | .tup xs, .ix i => xs[i]?
  | .dct _ kvs, .key k => dAt kvs k
  | .ins _ _ fs, .fld f => fAt fs f
  | _, _ => none
def D.upd1 : D → Stp → D → Option D
  | .lst true xs, .ix i, y => some (.lst true (xs.set i y))
  | .dct true kvs, .key k, y => some (.dct true (dSet kvs k y))
  | .ins true c fs, .fld f, y => some (.ins true c (fSet fs f y))
  | _, _, _ => none
def D.at : D → List Stp → Option D
  | d, [] => some d
  | d, s :: π => match d.at1 s with
    | some d1 => D.at d1 π
    | none => none
def D.upd : D → List Stp → D → Option D
  | _, [], y => some y
  | d, s :: π, y => match d.at1 s with
    | some d1 => (match D.upd d1 π y with
      | some d2 => d.upd1 s d2
      | none => none)
    | none => none
theorem at_app : ∀ {π ρ : List Stp} {d d1 : D}, d.at π = some d1 → d.at (π ++ ρ) = d1.at ρ
  | [], _, d, d1, h => by simp only [D.at, Option.some.injEq] at h; subst h; rfl
  | s :: π, ρ, d, d1, h => by
    simp only [D.at, List.cons_append] at h ⊢
    split at h
    · rename_i d2 e
      exact at_app h
    · cases h
theorem upd_app : ∀ {π ρ : List Stp} {d d1 e dn : D}, d.at π = some d1 → d.upd (π ++ ρ) e = some dn → ∃ e1, d1.upd ρ e = some e1 ∧ d.upd π e1 = some dn
  | [], _, d, d1, e, dn, h, q => by
    simp only [D.at, Option.some.injEq, List.nil_append] at h q
    subst h
    exact ⟨dn, q, rfl⟩
  | s :: π, ρ, d, d1, e, dn, h, q => by
    simp only [D.at, List.cons_append, D.upd] at h q
    cases e1 : d.at1 s with
    | none => rw [e1] at h; cases h
    | some d2 =>
      rw [e1] at h q
      dsimp only at h q
      cases e2 : d2.upd (π ++ ρ) e with
      | none => rw [e2] at q; cases q
      | some d3 =>
        rw [e2] at q
        obtain ⟨x, h1, h2⟩ := upd_app h e2
        refine ⟨x, h1, ?_⟩
        simp only [D.upd, e1, h2]
        exact q

section
variable {K : PySem.W.Frag} {mg : Mg} {Z Z' Z1 Z2 : Addr → Prop} {H H' H1 H2 : Hp}
/-- d1, that v stands for, is at π within d, that u stands for; F, F1: what may be changed in them -/
structure Foc (K : PySem.W.Frag) (mg : Mg) (Z : Addr → Prop) (H : Hp) (d : D) (u : V) (F : List Addr) (π : List Stp) (d1 : D) (v : V) (F1 : List Addr) : Prop where
  at_ : d.at π = some d1
  r : Rep K mg Z H d u F
  r1 : Rep K mg Z H d1 v F1
  nd : F.Nodup
  sub : F1.Sublist F
  up : ∀ Z' H' e F'' dn, d.upd π e = some dn → Stay Z Z' H H' → (∀ a ∈ F, a ∉ F1 → H' a = H a) → Rep K mg Z' H' e v F'' →
    ∃ G, Rep K mg Z' H' dn u G ∧ (∀ a ∈ G, a ∈ F'' ∨ (a ∈ F ∧ a ∉ F1)) ∧ (F''.Nodup → (∀ a ∈ F'', a ∈ F → a ∈ F1) → G.Nodup)
theorem Foc.nil {d : D} {u : V} {F : List Addr} (r : Rep K mg Z H d u F) (nd : F.Nodup) : Foc K mg Z H d u F [] d u F :=
  ⟨rfl, r, r, nd, List.Sublist.refl F, fun Z' H' e F'' dn h st k r' => by
    simp only [D.upd, Option.some.injEq] at h
    subst h
    exact ⟨F'', r', fun a ha => .inl ha, fun n _ => n⟩⟩
theorem Foc.stay {d d1 : D} {u v : V} {F F1 : List Addr} {π : List Stp} (f : Foc K mg Z H d u F π d1 v F1) (st : Stay Z Z1 H H1) (k : ∀ a ∈ F, H1 a = H a) : Foc K mg Z1 H1 d u F π d1 v F1 :=
  ⟨f.at_, f.r.stay st k, f.r1.stay st fun a ha => k a (f.sub.subset ha), f.nd, f.sub, fun Z' H' e F'' dn h s2 k2 r' => f.up Z' H' e F'' dn h (st.trans s2) (fun a ha n => (k2 a ha n).trans (k a ha)) r'⟩
theorem Foc.trans {d d1 d2 : D} {u v w : V} {F F1 F2 : List Addr} {π ρ : List Stp} (f : Foc K mg Z H d u F π d1 v F1) (g : Foc K mg Z H d1 v F1 ρ d2 w F2) : Foc K mg Z H d u F (π ++ ρ) d2 w F2 :=
  ⟨(at_app f.at_).trans g.at_, f.r, g.r1, f.nd, g.sub.trans f.sub, fun Z' H' e F'' dn h st k r' => by
    obtain ⟨e1, h1, h2⟩ := upd_app f.at_ h
    obtain ⟨G1, q1, q2, q3⟩ := g.up Z' H' e F'' e1 h1 st (fun a ha n => k a (f.sub.subset ha) n) r'
    obtain ⟨G, p1, p2, p3⟩ := f.up Z' H' e1 G1 dn h2 st (fun a ha n => k a ha fun z => n (g.sub.subset z)) q1
    refine ⟨G, p1, fun a ha => ?_, fun n s => p3 (q3 n fun a ha hb => s a ha (f.sub.subset hb)) fun a ha hb => ?_⟩
    · rcases p2 a ha with z | z
      · rcases q2 a z with z | z
        · exact .inl z
        · exact .inr ⟨f.sub.subset z.1, z.2⟩
      · exact .inr ⟨z.1, fun y => z.2 (g.sub.subset y)⟩
    · rcases q2 a ha with z | z
      · exact g.sub.subset (s a z hb)
      · exact z.1⟩
/-- one item of a row -/
theorem Reps.focus : ∀ {xs : List D} {vs : List V} {F : List Addr} {i : Nat} {x : D}, Reps K mg Z H xs vs F → xs[i]? = some x → F.Nodup →
    ∃ v F1, vs[i]? = some v ∧ Rep K mg Z H x v F1 ∧ F1.Sublist F ∧ ∀ Z' H' e F'', Stay Z Z' H H' → (∀ a ∈ F, a ∉ F1 → H' a = H a) → Rep K mg Z' H' e v F'' →
      ∃ G, Reps K mg Z' H' (xs.set i e) vs G ∧ (∀ a ∈ G, a ∈ F'' ∨ (a ∈ F ∧ a ∉ F1)) ∧ (F''.Nodup → (∀ a ∈ F'', a ∈ F → a ∈ F1) → G.Nodup)
  | [], vs, F, i, x, r, h, nd => by simp at h
  | x0 :: xs, vs, F, 0, x, r, h, nd => by
    simp only [List.getElem?_cons_zero, Option.some.injEq] at h
    subst h
    simp only [Reps] at r
    obtain ⟨v, us, F1, F2, rfl, r1, r2, rfl⟩ := r
    rw [List.nodup_append] at nd
    refine ⟨v, F1, rfl, r1, List.sublist_append_left _ _, fun Z' H' e F'' st k r' => ⟨F'' ++ F2, ?_, fun a ha => ?_, fun n s => ?_⟩⟩
    · exact Reps.cons r' (Reps.stay st r2 fun a ha => k a (List.mem_append_right _ ha) fun z => nd.2.2 a z a ha rfl)
    · rcases List.mem_append.mp ha with z | z
      · exact .inl z
      · exact .inr ⟨List.mem_append_right _ z, fun y => nd.2.2 a y a z rfl⟩
    · refine List.nodup_append.mpr ⟨n, nd.2.1, fun a ha b hb e => ?_⟩
      subst e
      exact nd.2.2 a (s a ha (List.mem_append_right _ hb)) a hb rfl
  | x0 :: xs, vs, F, i + 1, x, r, h, nd => by
    simp only [List.getElem?_cons_succ] at h
    simp only [Reps] at r
    obtain ⟨v0, us, Fa, Fb, rfl, r1, r2, rfl⟩ := r
    rw [List.nodup_append] at nd
    obtain ⟨v, F1, e1, q1, q2, q3⟩ := Reps.focus r2 h nd.2.1
    refine ⟨v, F1, e1, q1, q2.trans (List.sublist_append_right _ _), fun Z' H' e F'' st k r' => ?_⟩
    obtain ⟨G, p1, p2, p3⟩ := q3 Z' H' e F'' st (fun a ha n => k a (List.mem_append_right _ ha) n) r'
    have ap : ∀ a ∈ Fa, a ∉ F1 := fun a ha z => nd.2.2 a ha a (q2.subset z) rfl
    refine ⟨Fa ++ G, ?_, fun a ha => ?_, fun n s => ?_⟩
    · exact Reps.cons (r1.stay st fun a ha => k a (List.mem_append_left _ ha) (ap a ha)) p1
    · rcases List.mem_append.mp ha with z | z
      · exact .inr ⟨List.mem_append_left _ z, ap a z⟩
      · exact (p2 a z).imp_right fun y => ⟨List.mem_append_right _ y.1, y.2⟩
    · refine List.nodup_append.mpr ⟨nd.1, p3 n fun a ha hb => s a ha (List.mem_append_right _ hb), fun a ha b hb e => ?_⟩
      subst e
      rcases p2 a hb with z | z
      · exact ap a ha (s a z (List.mem_append_left _ ha))
      · exact nd.2.2 a ha a z.1 rfl
theorem Repk.focus : ∀ {xs : List (D × D)} {ks : List Key} {vs : List V} {F : List Addr} {k : Key} {x : D}, Repk K mg Z H xs vs F → keysD xs = some ks → dAt xs k = some x → F.Nodup →
    ∃ v F1, valV (ks.zip vs) k = some v ∧ Rep K mg Z H x v F1 ∧ F1.Sublist F ∧ ∀ Z' H' e F'', Stay Z Z' H H' → (∀ a ∈ F, a ∉ F1 → H' a = H a) → Rep K mg Z' H' e v F'' →
      keysD (dSet xs k e) = some ks ∧ ∃ G, Repk K mg Z' H' (dSet xs k e) vs G ∧ (∀ a ∈ G, a ∈ F'' ∨ (a ∈ F ∧ a ∉ F1)) ∧ (F''.Nodup → (∀ a ∈ F'', a ∈ F → a ∈ F1) → G.Nodup)
  | [], ks, vs, F, k, x, r, hk, h, nd => by simp [dAt] at h
  | (k0, x0) :: xs, ks, vs, F, k, x, r, hk, h, nd => by
    simp only [Repk] at r
    obtain ⟨v0, us, Fa, Fb, rfl, r1, r2, rfl⟩ := r
    rw [List.nodup_append] at nd
    simp only [keysD] at hk
    split at hk
    · rename_i a b ea eb
      cases hk
      simp only [dAt] at h
      by_cases hq : keyD k0 = some k
      · rw [if_pos hq] at h
        cases h
        rw [ea] at hq
        cases hq
        refine ⟨v0, Fa, by rw [List.zip_cons_cons, valV_pos (by rfl)], r1, List.sublist_append_left _ _, fun Z' H' e F'' st kk r' => ⟨?_, F'' ++ Fb, ?_, fun c ha => ?_, fun n s => ?_⟩⟩
        · simp only [dSet, ea, if_true, keysD, eb]
        · simp only [dSet, ea, if_true, Repk]
          exact ⟨v0, us, F'', Fb, rfl, r', Repk.stay st r2 fun c hc => kk c (List.mem_append_right _ hc) fun z => nd.2.2 c z c hc rfl, rfl⟩
        · rcases List.mem_append.mp ha with z | z
          · exact .inl z
          · exact .inr ⟨List.mem_append_right _ z, fun y => nd.2.2 c y c z rfl⟩
        · refine List.nodup_append.mpr ⟨n, nd.2.1, fun c ha d hb e => ?_⟩
          subst e
          exact nd.2.2 c (s c ha (List.mem_append_right _ hb)) c hb rfl
      · rw [if_neg hq] at h
        obtain ⟨v, F1, e1, q1, q2, q3⟩ := Repk.focus r2 eb h nd.2.1
        have hne : ¬ a = k := fun z => hq (by rw [ea, z])
        have ap : ∀ c ∈ Fa, c ∉ F1 := fun c ha z => nd.2.2 c ha c (q2.subset z) rfl
        refine ⟨v, F1, by rw [List.zip_cons_cons, valV_neg (by exact hne)]; exact e1, q1, q2.trans (List.sublist_append_right _ _), fun Z' H' e F'' st kk r' => ?_⟩
        obtain ⟨z1, G, p1, p2, p3⟩ := q3 Z' H' e F'' st (fun c ha n => kk c (List.mem_append_right _ ha) n) r'
        refine ⟨?_, Fa ++ G, ?_, fun c ha => ?_, fun n s => ?_⟩
        · have h2 : dSet ((k0, x0) :: xs) k e = (k0, x0) :: dSet xs k e := by simp only [dSet, if_neg hq]
          rw [h2]
          simp only [keysD, z1, ea]
        · have h2 : dSet ((k0, x0) :: xs) k e = (k0, x0) :: dSet xs k e := by simp only [dSet, if_neg hq]
          rw [h2]
          simp only [Repk]
          exact ⟨v0, us, Fa, G, rfl, r1.stay st fun c ha => kk c (List.mem_append_left _ ha) (ap c ha), p1, rfl⟩
        · rcases List.mem_append.mp ha with z | z
          · exact .inr ⟨List.mem_append_left _ z, ap c z⟩
          · exact (p2 c z).imp_right fun y => ⟨List.mem_append_right _ y.1, y.2⟩
        · refine List.nodup_append.mpr ⟨nd.1, p3 n fun c ha hb => s c ha (List.mem_append_right _ hb), fun c ha d hb e => ?_⟩
          subst e
          rcases p2 c hb with z | z
          · exact ap c ha (s c z (List.mem_append_left _ ha))
          · exact nd.2.2 c ha c z.1 rfl
    · cases hk
theorem Repf.focus : ∀ {xs : List (Str × D)} {vs : List V} {F : List Addr} {k : Str} {x : D}, Repf K mg Z H xs vs F → fAt xs k = some x → F.Nodup →
    ∃ v F1, ((xs.map (·.1)).zip vs).lookup k = some v ∧ Rep K mg Z H x v F1 ∧ F1.Sublist F ∧ ∀ Z' H' e F'', Stay Z Z' H H' → (∀ a ∈ F, a ∉ F1 → H' a = H a) → Rep K mg Z' H' e v F'' →
      (fSet xs k e).map (·.1) = xs.map (·.1) ∧ ∃ G, Repf K mg Z' H' (fSet xs k e) vs G ∧ (∀ a ∈ G, a ∈ F'' ∨ (a ∈ F ∧ a ∉ F1)) ∧ (F''.Nodup → (∀ a ∈ F'', a ∈ F → a ∈ F1) → G.Nodup)
  | [], vs, F, k, x, r, h, nd => by simp [fAt] at h
  | (k0, x0) :: xs, vs, F, k, x, r, h, nd => by
    simp only [Repf] at r
    obtain ⟨v0, us, Fa, Fb, rfl, r1, r2, rfl⟩ := r
    rw [List.nodup_append] at nd
    simp only [fAt] at h
    by_cases hq : (k == k0) = true
    · rw [if_pos hq] at h
      cases h
      refine ⟨v0, Fa, by simp [List.lookup, hq], r1, List.sublist_append_left _ _, fun Z' H' e F'' st kk r' => ⟨?_, F'' ++ Fb, ?_, fun c ha => ?_, fun n s => ?_⟩⟩
      · simp only [fSet, hq, if_true, List.map_cons]
      · simp only [fSet, hq, if_true, Repf]
        exact ⟨v0, us, F'', Fb, rfl, r', Repf.stay st r2 fun c hc => kk c (List.mem_append_right _ hc) fun z => nd.2.2 c z c hc rfl, rfl⟩
      · rcases List.mem_append.mp ha with z | z
        · exact .inl z
        · exact .inr ⟨List.mem_append_right _ z, fun y => nd.2.2 c y c z rfl⟩
      · refine List.nodup_append.mpr ⟨n, nd.2.1, fun c ha d hb e => ?_⟩
        subst e
        exact nd.2.2 c (s c ha (List.mem_append_right _ hb)) c hb rfl
    · rw [if_neg hq] at h
      obtain ⟨v, F1, e1, q1, q2, q3⟩ := Repf.focus r2 h nd.2.1
      have ap : ∀ c ∈ Fa, c ∉ F1 := fun c ha z => nd.2.2 c ha c (q2.subset z) rfl
      have hqf : (k == k0) = false := by simpa using hq
      refine ⟨v, F1, by simp only [List.map_cons, List.zip_cons_cons, List.lookup, hqf]; exact e1, q1, q2.trans (List.sublist_append_right _ _), fun Z' H' e F'' st kk r' => ?_⟩
      obtain ⟨z1, G, p1, p2, p3⟩ := q3 Z' H' e F'' st (fun c ha n => kk c (List.mem_append_right _ ha) n) r'
      refine ⟨?_, Fa ++ G, ?_, fun c ha => ?_, fun n s => ?_⟩
      · simp only [fSet, hqf, List.map_cons]
        rw [if_neg Bool.false_ne_true, List.map_cons, z1]
      · simp only [fSet, hqf, Bool.false_eq_true, if_false, Repf]
        exact ⟨v0, us, Fa, G, rfl, r1.stay st fun c ha => kk c (List.mem_append_left _ ha) (ap c ha), p1, rfl⟩
      · rcases List.mem_append.mp ha with z | z
        · exact .inr ⟨List.mem_append_left _ z, ap c z⟩
        · exact (p2 c z).imp_right fun y => ⟨List.mem_append_right _ y.1, y.2⟩
      · refine List.nodup_append.mpr ⟨nd.1, p3 n fun c ha hb => s c ha (List.mem_append_right _ hb), fun c ha d hb e => ?_⟩
        subst e
        rcases p2 c hb with z | z
        · exact ap c ha (s c z (List.mem_append_left _ ha))
        · exact nd.2.2 c ha c z.1 rfl
/-- the step, by what is tracked -/
def D.len : D → Nat
  | .lst _ xs => xs.length
  | .tup xs => xs.length
  | _ => 0
def StpV (K : PySem.W.Frag) (H : Hp) (n : Nat) (u : V) (v : V) : Stp → Prop
  | .ix i => ∃ a vs, u = .ref a ∧ (SqL K H a vs ∨ SqT K H a vs) ∧ vs[i]? = some v ∧ vs.length = n
  | .key k => ∃ a kvs, u = .ref a ∧ H a = some (.dK kvs) ∧ valV kvs k = some v
  | .fld f => ∃ a C dx fs, u = .ref a ∧ H a = some (.ins C dx fs) ∧ fs.lookup f = some v
theorem Foc.step {d d1 : D} {u : V} {F : List Addr} {s : Stp} (r : Rep K mg Z H d u F) (nd : F.Nodup) (h : d.at1 s = some d1) : ∃ v F1, StpV K H d.len u v s ∧ Foc K mg Z H d u F [s] d1 v F1 := by
  have hat : d.at [s] = some d1 := by simp only [D.at, h]
  have upd1 : ∀ {e dn}, d.upd [s] e = some dn → d.upd1 s e = some dn := fun {e dn} q => by
    simp only [D.upd, h] at q
    exact q
  unfold D.at1 at h
  split at h
  · rename_i o xs i
    cases o with
    | false =>
      obtain ⟨a, vs, G, e, sq, rs⟩ := lst_sq r
      have r0 := r
      simp only [Rep] at r
      obtain ⟨a', vs', e', t, rs, rfl⟩ := r
      obtain ⟨v, F1, e1, q1, q2, q3⟩ := Reps.focus rs h List.nodup_nil
      refine ⟨v, F1, ⟨a', vs', e', .inl t.sq, e1, rs.length⟩, hat, r0, q1, nd, q2, fun Z' H' e F'' dn hu st k r' => ?_⟩
      have := upd1 hu
      simp [D.upd1] at this
    | true =>
      have r0 := r
      simp only [Rep] at r
      obtain ⟨a, vs, G, rfl, t, rs, rfl⟩ := r
      have nd' := List.nodup_cons.mp nd
      obtain ⟨v, F1, e1, q1, q2, q3⟩ := Reps.focus rs h nd'.2
      refine ⟨v, F1, ⟨a, vs, rfl, .inl (.inl (.inl t)), e1, rs.length⟩, hat, r0, q1, nd, q2.trans (List.sublist_cons_self _ _), fun Z' H' e F'' dn hu st k r' => ?_⟩
      have := upd1 hu
      simp only [D.upd1, Option.some.injEq] at this
      subst this
      obtain ⟨G', p1, p2, p3⟩ := q3 Z' H' e F'' st (fun b hb n => k b (List.mem_cons_of_mem _ hb) n) r'
      have ha : a ∉ F1 := fun z => nd'.1 (q2.subset z)
      refine ⟨a :: G', ?_, fun b hb => ?_, fun n s => ?_⟩
      · simp only [Rep]
        exact ⟨a, vs, G', rfl, (k a List.mem_cons_self ha).trans t, p1, rfl⟩
      · rcases List.mem_cons.mp hb with rfl | hb
        · exact .inr ⟨List.mem_cons_self, ha⟩
        · exact (p2 b hb).imp_right fun y => ⟨List.mem_cons_of_mem _ y.1, y.2⟩
      · refine List.nodup_cons.mpr ⟨fun z => ?_, p3 n fun b hb hc => s b hb (List.mem_cons_of_mem _ hc)⟩
        rcases p2 a z with z | z
        · exact ha (s a z List.mem_cons_self)
        · exact nd'.1 z.1
  · rename_i xs i
    have r0 := r
    simp only [Rep] at r
    obtain ⟨a, vs, e', t, rs⟩ := r
    obtain ⟨v, F1, e1, q1, q2, q3⟩ := Reps.focus rs h nd
    refine ⟨v, F1, ⟨a, vs, e', .inr t.sq, e1, rs.length⟩, hat, r0, q1, nd, q2, fun Z' H' e F'' dn hu st k r' => ?_⟩
    have := upd1 hu
    simp [D.upd1] at this
  · rename_i o kvs kk
    cases o with
    | false =>
      have r0 := r
      simp only [Rep] at r
      obtain ⟨a, ks, vs, e', t, z, hk, rs, rfl⟩ := r
      obtain ⟨v, F1, e1, q1, q2, q3⟩ := Repk.focus rs hk.1 h List.nodup_nil
      refine ⟨v, F1, ⟨a, _, e', t, e1⟩, hat, r0, q1, nd, q2, fun Z' H' e F'' dn hu st k r' => ?_⟩
      have := upd1 hu
      simp [D.upd1] at this
    | true =>
      have r0 := r
      simp only [Rep] at r
      obtain ⟨a, ks, vs, G, rfl, t, hk, rs, rfl⟩ := r
      have nd' := List.nodup_cons.mp nd
      obtain ⟨v, F1, e1, q1, q2, q3⟩ := Repk.focus rs hk.1 h nd'.2
      refine ⟨v, F1, ⟨a, _, rfl, t, e1⟩, hat, r0, q1, nd, q2.trans (List.sublist_cons_self _ _), fun Z' H' e F'' dn hu st k r' => ?_⟩
      have := upd1 hu
      simp only [D.upd1, Option.some.injEq] at this
      subst this
      obtain ⟨z1, G', p1, p2, p3⟩ := q3 Z' H' e F'' st (fun b hb n => k b (List.mem_cons_of_mem _ hb) n) r'
      have ha : a ∉ F1 := fun z => nd'.1 (q2.subset z)
      refine ⟨a :: G', ?_, fun b hb => ?_, fun n s => ?_⟩
      · simp only [Rep]
        exact ⟨a, ks, vs, G', rfl, (k a List.mem_cons_self ha).trans t, ⟨z1, hk.2⟩, p1, rfl⟩
      · rcases List.mem_cons.mp hb with rfl | hb
        · exact .inr ⟨List.mem_cons_self, ha⟩
        · exact (p2 b hb).imp_right fun y => ⟨List.mem_cons_of_mem _ y.1, y.2⟩
      · refine List.nodup_cons.mpr ⟨fun z => ?_, p3 n fun b hb hc => s b hb (List.mem_cons_of_mem _ hc)⟩
        rcases p2 a z with z | z
        · exact ha (s a z List.mem_cons_self)
        · exact nd'.1 z.1
  · rename_i o c fs f
    cases o with
    | false =>
      have r0 := r
      simp only [Rep] at r
      obtain ⟨a, C, dx, vs, e', m, t, w, z1, z2, rs, rfl⟩ := r
      obtain ⟨v, F1, e1, q1, q2, q3⟩ := Repf.focus rs h List.nodup_nil
      refine ⟨v, F1, ⟨a, C, dx, _, e', t, e1⟩, hat, r0, q1, nd, q2, fun Z' H' e F'' dn hu st k r' => ?_⟩
      have := upd1 hu
      simp [D.upd1] at this
    | true =>
      have r0 := r
      simp only [Rep] at r
      obtain ⟨a, C, dx, vs, G, rfl, m, t, w, rs, rfl⟩ := r
      have nd' := List.nodup_cons.mp nd
      have nd2 := List.nodup_cons.mp nd'.2
      obtain ⟨v, F1, e1, q1, q2, q3⟩ := Repf.focus rs h nd2.2
      refine ⟨v, F1, ⟨a, C, dx, _, rfl, t, e1⟩, hat, r0, q1, nd, q2.trans ((List.sublist_cons_self _ _).trans (List.sublist_cons_self _ _)), fun Z' H' e F'' dn hu st k r' => ?_⟩
      have := upd1 hu
      simp only [D.upd1, Option.some.injEq] at this
      subst this
      obtain ⟨z1, G', p1, p2, p3⟩ := q3 Z' H' e F'' st (fun b hb n => k b (List.mem_cons_of_mem _ (List.mem_cons_of_mem _ hb)) n) r'
      have hd : dx ∉ F1 := fun z => nd2.1 (q2.subset z)
      have ha : a ∉ F1 := fun z => nd'.1 (List.mem_cons_of_mem _ (q2.subset z))
      refine ⟨a :: dx :: G', ?_, fun b hb => ?_, fun n s => ?_⟩
      · simp only [Rep]
        exact ⟨a, C, dx, vs, G', rfl, m, by rw [z1]; exact (k a List.mem_cons_self ha).trans t, (k dx (List.mem_cons_of_mem _ List.mem_cons_self) hd).trans w, p1, rfl⟩
      · rcases List.mem_cons.mp hb with rfl | hb
        · exact .inr ⟨List.mem_cons_self, ha⟩
        · rcases List.mem_cons.mp hb with rfl | hb
          · exact .inr ⟨List.mem_cons_of_mem _ List.mem_cons_self, hd⟩
          · exact (p2 b hb).imp_right fun y => ⟨List.mem_cons_of_mem _ (List.mem_cons_of_mem _ y.1), y.2⟩
      · refine List.nodup_cons.mpr ⟨fun z => ?_, List.nodup_cons.mpr ⟨fun z => ?_, p3 n fun b hb hc => s b hb (List.mem_cons_of_mem _ (List.mem_cons_of_mem _ hc))⟩⟩
        · rcases List.mem_cons.mp z with z | z
          · exact nd'.1 (by rw [z]; exact List.mem_cons_self)
          · rcases p2 a z with z | z
            · exact ha (s a z List.mem_cons_self)
            · exact nd'.1 (List.mem_cons_of_mem _ z.1)
        · rcases p2 dx z with z | z
          · exact hd (s dx z (List.mem_cons_of_mem _ List.mem_cons_self))
          · exact nd2.1 z.1
  · cases h
end
end VI
/-! V15: paths as expressions; what changes a value in its place -/
namespace VI
open PySem PySem.Spec L2

section
variable {K : PySem.W.Frag} {mg : Mg} {Z Z' Z0 Z1 Z2 : Addr → Prop} {H H' H0 H1 H2 : Hp} {σ : L2.St} {env env' env0 env1 env2 : Env} {Fs Fs' Fs0 Fs1 Fs2 : Nat → List Addr} {T T' T1 T2 : Nat → Bool}
/-- what stands for a slot's value is changed, other things may be taken in -/
theorem SR.mut2 (S : SR K mg Z H σ env Fs) {i : Nat} {d d' : D} {u : V} {G : List Addr} (hd : env.s[i]? = some (some d)) (hu : σ[i]? = some (some u)) (keep : ∀ a o, H a = some o → a ∉ Fs i → H' a = some o) (r : Rep K mg Z H' d' u G) (nd : G.Nodup)
    (ap : ∀ a ∈ G, (∀ j, j ≠ i → a ∉ Fs j) ∧ ¬ Z a) : SR K mg Z H' σ (env.put i d') (fset Fs i G) := by
  have hi : i < env.s.length := (List.getElem?_eq_some_iff.mp hd).1
  have stay : Stay Z Z H H' := ⟨fun _ h => h, fun a h => by
    obtain ⟨o, e⟩ := S.zs a h
    rw [e]
    exact keep a o e fun q => S.zf i a q h⟩
  have kj : ∀ j, j ≠ i → ∀ a ∈ Fs j, H' a = H a := fun j hj a ha => by
    obtain ⟨o, e⟩ := S.tr ha
    rw [e]
    exact keep a o e fun q => S.dj j i hj a ha q
  refine ⟨by simpa [Env.put] using S.len, fun j x e => ?_, fun j h => ?_, fun j => ?_, fun j k hjk a ha q => ?_, fun j a ha => ?_, fun a z => ?_⟩
  · by_cases hj : j = i
    · subst hj
      rw [Env.put, List.getElem?_set_self hi] at e
      cases e
      exact ⟨u, hu, by rw [fset_self]; exact r⟩
    · rw [Env.put, List.getElem?_set_ne (Ne.symm hj)] at e
      obtain ⟨w, h1, h2⟩ := S.rep j x e
      exact ⟨w, h1, by rw [fset_ne hj]; exact h2.stay stay (kj j hj)⟩
  · by_cases hj : j = i
    · subst hj
      exact absurd (List.getElem?_set_self hi) (h d')
    · rw [fset_ne hj]
      exact S.no j fun x q => h x (by rw [Env.put, List.getElem?_set_ne (Ne.symm hj)]; exact q)
  · by_cases hj : j = i
    · subst hj; rw [fset_self]; exact nd
    · rw [fset_ne hj]; exact S.nd j
  · by_cases hj : j = i
    · subst hj
      rw [fset_self] at ha
      rw [fset_ne (Ne.symm hjk)] at q
      exact (ap a ha).1 k (Ne.symm hjk) q
    · rw [fset_ne hj] at ha
      by_cases hk : k = i
      · subst hk; rw [fset_self] at q; exact (ap a q).1 j hj ha
      · rw [fset_ne hk] at q; exact S.dj j k hjk a ha q
  · by_cases hj : j = i
    · subst hj; rw [fset_self] at ha; exact (ap a ha).2
    · rw [fset_ne hj] at ha; exact S.zf j a ha
  · obtain ⟨o, e⟩ := S.zs a z
    exact ⟨o, keep a o e fun q => S.zf i a q z⟩
theorem Tr.mut2 (t : Tr T Z0 H0 env0 Fs0 Z H env Fs) (S : SR K mg Z H σ env Fs) {i : Nat} {d' : D} {G : List Addr} (keep : ∀ a o, H a = some o → a ∉ Fs i → H' a = some o) (gr : ∀ a, H' a = none → H a = none) (gn : ∀ a ∈ G, (∃ j, a ∈ Fs0 j) ∨ H0 a = none) :
    Tr (tor T (T1' i)) Z0 H0 env0 Fs0 Z H' (env.put i d') (fset Fs i G) where
  z := t.z
  zn := t.zn
  keep := fun a o e n => keep a o (t.keep a o e n) fun q => by
    rcases t.new i a q with ⟨j, z⟩ | z
    · exact n j z
    · rw [e] at z; cases z
  gr := fun a e => t.gr a (gr a e)
  new := fun j a ha => by
    by_cases hj : j = i
    · subst hj; rw [fset_self] at ha; exact gn a ha
    · rw [fset_ne hj] at ha; exact t.new j a ha
  un := fun j hj => by
    obtain ⟨h1, h2⟩ := tor_sub j hj
    have hj' : j ≠ i := by simpa using h2
    obtain ⟨u1, u2, u3⟩ := t.un j h1
    refine ⟨by rw [Env.put, List.getElem?_set_ne (Ne.symm hj')]; exact u1, (fset_ne hj').trans u2, fun a ha => ?_⟩
    have ha' : a ∈ Fs j := by rw [u2]; exact ha
    obtain ⟨o, e⟩ := S.tr ha'
    rw [← u3 a ha, e]
    exact keep a o e fun q => S.dj j i hj' a ha' q
  p := t.p
end

/-! ### paths -/
def ContP (K : PySem.W.Frag) (mg : Mg) (T : Nat → Bool) (i : Nat) (W : WX) (Q : VK) (σ : L2.St) (Z : Addr → Prop) (H : Hp) (env : Env) (Fs : Nat → List Addr) : Out (List Stp) → Prop
  | .ok π env' => ∀ d d1 u v H' Z' Fs' F1, SR K mg Z' H' σ env' Fs' → Tr T Z H env Fs Z' H' env' Fs' → env'.s[i]? = some (some d) → σ[i]? = some (some u) → Foc K mg Z' H' d u (Fs' i) π d1 v F1 → Q v H'
  | .exc c fs env' => ∀ cls dd H' Z' Fs', SR K mg Z' H' σ env' Fs' → Tr T Z H env Fs Z' H' env' Fs' → XAt K mg Z' H' c fs cls dd → W cls dd σ H'
  | .err => False
def tP (K : PySem.W.Frag) (mg : Mg) (i : Nat) (f : M (List Stp)) (T : Nat → Bool) (W : WX) : TE := fun σ H Q => ∃ Z env Fs, SR K mg Z H σ env Fs ∧ ContP K mg T i W Q σ Z H env Fs (f env)
structure VPa (X : Cx) (e : Expr) (i : Nat) (f : M (List Stp)) (T : Nat → Bool) : Prop where
  run : ∀ W, Takes X W → PE X e (tP X.K X.mg i f T W)
/-- the value there -/
def atE (env : Env) (i : Nat) (π : List Stp) : Option D := match env.s[i]? with
  | some (some d) => d.at π
  | _ => none
def updE (env : Env) (i : Nat) (π : List Stp) (y : D) : Option Env := match env.s[i]? with
  | some (some d) => (match d.upd π y with
    | some d' => some (env.put i d')
    | none => none)
  | _ => none
theorem atE_of {env : Env} {i : Nat} {π : List Stp} {d1 : D} (h : atE env i π = some d1) : ∃ d, env.s[i]? = some (some d) ∧ d.at π = some d1 := by
  unfold atE at h
  split at h
  · rename_i d e
    exact ⟨d, e, h⟩
  · cases h
def rootM (i : Nat) : M (List Stp) := fun env => match env.s[i]? with
  | some (some _) => .ok [] env
  | _ => .err
def stepOf : D → D → Option Stp
  | .lst _ xs, .int i => (ixN xs.length i).map .ix
  | .tup xs, .int i => (ixN xs.length i).map .ix
  | .dct _ _, k => (keyD k).map .key
  | _, _ => none
def pixM (i : Nat) (fp : M (List Stp)) (fk : M D) : M (List Stp) := bnd fp fun π => bnd fk fun dk env => match atE env i π with
  | some d1 => (match stepOf d1 dk with
    | some s => (match d1.at1 s with
      | some _ => .ok (π ++ [s]) env
      | none => .err)
    | none => .err)
  | none => .err
def pfldM (i : Nat) (c f : Str) (fp : M (List Stp)) : M (List Stp) := bnd fp fun π env => match atE env i π with
  | some (.ins _ c' fs) => if c' = c then (match fAt fs f with
    | some _ => .ok (π ++ [.fld f]) env
    | none => .err) else .err
  | _ => .err
def getM (i : Nat) (fp : M (List Stp)) : M D := bnd fp fun π env => match atE env i π with
  | some d1 => .ok d1 env
  | none => .err
/-- a list's, a tuple's, a dict's item -/
def rIxP (K : PySem.W.Frag) : R2 := fun x y H Q => rIxL K x y H Q ∨ rIxT K x y H Q ∨ ∃ a kvs k v, x = .ref a ∧ H a = some (.dK kvs) ∧ y = kV k ∧ valV kvs k = some v ∧ Q v H
theorem rep_key {K : PySem.W.Frag} {mg : Mg} {Z : Addr → Prop} {H : Hp} {d : D} {v : V} {F : List Addr} {k : Key} (r : Rep K mg Z H d v F) (h : keyD d = some k) : v = kV k := by
  unfold keyD at h
  split at h
  · cases h; simp only [Rep] at r; exact r.1
  · cases h; simp only [Rep] at r; exact r.1
  · cases h
section
variable {X : Cx} {e a b k : Expr} {pos p cpos apos : Pos} {es : List Expr} {i : Nat} {fp : M (List Stp)} {f fk fa : M D} {fl : M (List D)} {T Tp Tk Ta : Nat → Bool} {src sk : Option Nat}
theorem ix_dictP (hu : X.A.units + 1 < cLine) : IxR X (fun x y H Q => ∃ a kvs k v, x = .ref a ∧ H a = some (.dK kvs) ∧ y = kV k ∧ valV kvs k = some v ∧ Q v H) := by
  intro value slice pins s σ H x y v u Q I rx ry h hs
  obtain ⟨a, kvs, k, w, rfl, hH, rfl, hv, q⟩ := h
  cases rx
  have g : DGet H a (kV k) (some w) := by
    have := DGet.k (k := k) hH
    rw [hv] at this
    exact this
  exact PyProof.Rows.tail_any (dict_typeIs I g) PySem.F.slot_dict_getitem.lookup (d_getItem hu I g ry fun w' s3 I3 rw' => ⟨w, H, I3, rw', q⟩) hs
theorem ix_P (hu : X.A.units + 1 < cLine) : IxR X (rIxP X.K) := ix_list.or (ix_tup.or (ix_dictP hu))
theorem vp_name {x : Str} (hN : X.N[i]? = some x) (hv : Vis X.env.scope x) (hd : (x == ("__debug__" : Str)) = false := by decide) (hcd : (x == ("__classdict__" : Str)) = false := by decide) : VPa X (.Name x pos) i (rootM i) T0 := by
  refine ⟨fun W tk => pe_imp (pe_var hN hv hd hcd) fun σ H Q ⟨Z, env, Fs, S, c⟩ => ?_⟩
  unfold rootM at c
  split at c
  · rename_i d hd
    obtain ⟨v, h1, h2⟩ := S.rep i d hd
    exact ⟨v, h1, c d d v v H Z Fs (Fs i) S Tr.refl hd h1 (Foc.nil h2 (S.nd i))⟩
  · exact c.elim
/-- the path's focus behind another expression -/
theorem Foc.over {K : PySem.W.Frag} {mg : Mg} {Z1 Z2 : Addr → Prop} {H1 H2 : Hp} {σ : L2.St} {env1 env2 : Env} {Fs1 Fs2 : Nat → List Addr} {π : List Stp} {d d1 : D} {u v : V} {F1 : List Addr} (S : SR K mg Z1 H1 σ env1 Fs1) (t : Tr Tk Z1 H1 env1 Fs1 Z2 H2 env2 Fs2) (h : Tk i = false)
    (f : Foc K mg Z1 H1 d u (Fs1 i) π d1 v F1) (hd : env1.s[i]? = some (some d)) : Foc K mg Z2 H2 d u (Fs2 i) π d1 v F1 ∧ env2.s[i]? = some (some d) := by
  obtain ⟨u1, u2, u3⟩ := t.un i h
  have := f.stay (t.stay S) u3
  rw [← u2] at this
  exact ⟨this, u1.trans hd⟩
theorem StpV.ixP {K : PySem.W.Frag} {mg : Mg} {Z : Addr → Prop} {H : Hp} {u v y : V} {s : Stp} {d1 dk : D} {Fk : List Addr} {Q : VK} (h : StpV K H d1.len u v s) (rk : Rep K mg Z H dk y Fk) (hs : stepOf d1 dk = some s) (q : Q v H) : rIxP K u y H Q := by
  have hix : ∀ {n : Nat} {i : Int} {j : Nat} {vs : List V}, ixN n i = some j → vs.length = n → vs[j]? = some v → atI vs i = some v := fun {n i j vs} e1 e2 e3 => by
    unfold atI
    rw [e2, e1]
    exact e3
  unfold stepOf at hs
  split at hs
  · rename_i o xs i
    cases e : ixN xs.length i with
    | none => rw [e] at hs; cases hs
    | some j =>
      rw [e] at hs
      cases hs
      simp only [Rep] at rk
      obtain ⟨a, vs, eu, sq, hj, hl⟩ := h
      rcases sq with sq | sq
      · exact .inl ⟨a, vs, i, v, eu, rk.1, sq, hix e hl hj, q⟩
      · exact .inr (.inl ⟨a, vs, i, v, eu, rk.1, sq, hix e hl hj, q⟩)
  · rename_i xs i
    cases e : ixN xs.length i with
    | none => rw [e] at hs; cases hs
    | some j =>
      rw [e] at hs
      cases hs
      simp only [Rep] at rk
      obtain ⟨a, vs, eu, sq, hj, hl⟩ := h
      rcases sq with sq | sq
      · exact .inl ⟨a, vs, i, v, eu, rk.1, sq, hix e hl hj, q⟩
      · exact .inr (.inl ⟨a, vs, i, v, eu, rk.1, sq, hix e hl hj, q⟩)
  · cases e : keyD dk with
    | none => rw [e] at hs; cases hs
    | some kk =>
      rw [e] at hs
      cases hs
      obtain ⟨a, kvs, eu, hH, hv⟩ := h
      exact .inr (.inr ⟨a, kvs, kk, v, eu, hH, rep_key rk e, hv, q⟩)
  · cases hs
theorem vp_ix (hu : X.A.units + 1 < cLine) (hP : VPa X e i fp Tp) (hk : VE X k fk Tk sk) (ht : Tk i = false) (hs : PlainIx k) : VPa X (.Subscript e k pos) i (pixM i fp fk) (tor Tp Tk) := by
  refine ⟨fun W tk => pe_imp (pe_ix (ix_P hu) (hP.run W tk) (hk.run W tk) hs) fun σ H Q ⟨Z, env, Fs, S, c⟩ => ⟨Z, env, Fs, S, ?_⟩⟩
  unfold pixM bnd at c
  cases qp : fp env with
  | err => rw [qp] at c; exact c.elim
  | exc x fs e1 =>
    rw [qp] at c
    exact fun cls dd H' Z' Fs' S' t r => c cls dd H' Z' Fs' S' (t.mono fun i q => (tor_sub i q).1) r
  | ok π e1 =>
    rw [qp] at c
    dsimp only at c
    intro d d1 u v H1 Z1 Fs1 F1 S1 t1 hd hu foc
    refine ⟨Z1, e1, Fs1, S1, ?_⟩
    cases qk : fk e1 with
    | err => rw [qk] at c; exact c.elim
    | exc x fs e2 =>
      rw [qk] at c
      exact fun cls dd H' Z' Fs' S' t r => c cls dd H' Z' Fs' S' (t1.trans t tor_sub) r
    | ok dk e2 =>
      rw [qk] at c
      dsimp only at c
      intro y H2 Z2 Fs2 Fk S2 t2 rk pk
      obtain ⟨foc2, hd2⟩ := foc.over S1 t2 ht hd
      have ha : atE e2 i π = some d1 := by
        unfold atE
        rw [hd2]
        exact foc2.at_
      rw [ha] at c
      dsimp only at c
      split at c
      · rename_i s hs
        split at c
        · rename_i d2 h2
          obtain ⟨w, F2, st, foc3⟩ := Foc.step foc2.r1 (foc2.sub.nodup foc2.nd) h2
          exact st.ixP rk hs (c d d2 u w H2 Z2 Fs2 F2 S2 (t1.trans t2 tor_sub) hd2 hu (foc2.trans foc3))
        · exact c.elim
      · exact c.elim
theorem vp_fld {c : Str} {f : Str} (hcl : ∀ C, X.mg c = some (.ref C) → Cls X.K C ∧ NoAttr X.K C f) (hP : VPa X e i fp Tp) (hb : attributeBase e f X.env (eval e X.env) = eval e X.env := by rfl) : VPa X (.Attribute e f pos) i (pfldM i c f fp) Tp := by
  refine ⟨fun W tk => pe_imp (pe_fld (hP.run W tk) hb) fun σ H Q ⟨Z, env, Fs, S, cc⟩ => ⟨Z, env, Fs, S, ?_⟩⟩
  unfold pfldM bnd at cc
  cases qp : fp env with
  | err => rw [qp] at cc; exact cc.elim
  | exc x fs e1 => rw [qp] at cc; exact cc
  | ok π e1 =>
    rw [qp] at cc
    dsimp only at cc
    intro d d1 u v H1 Z1 Fs1 F1 S1 t1 hd hu foc
    have ha : atE e1 i π = some d1 := by
      unfold atE
      rw [hd]
      exact foc.at_
    rw [ha] at cc
    split at cc
    · rename_i o c' fs he
      cases he
      split at cc
      · rename_i hc
        subst hc
        split at cc
        · rename_i x hx
          obtain ⟨w, F2, st, foc3⟩ := Foc.step (s := .fld f) foc.r1 (foc.sub.nodup foc.nd) hx
          obtain ⟨a, C, dx, gs, ev, hH, hl⟩ := st
          have hm : ∃ C0, X.mg c' = some (.ref C0) ∧ C0 = C := by
            have r1 := foc.r1
            cases o with
            | true =>
              simp only [Rep] at r1
              obtain ⟨a', C', dx', vs', G', e', m', t', _⟩ := r1
              rw [ev] at e'
              cases e'
              rw [hH] at t'
              cases t'
              exact ⟨_, m', rfl⟩
            | false =>
              simp only [Rep] at r1
              obtain ⟨a', C', dx', vs', e', m', t', _⟩ := r1
              rw [ev] at e'
              cases e'
              rw [hH] at t'
              cases t'
              exact ⟨_, m', rfl⟩
          obtain ⟨C0, hm, rfl⟩ := hm
          obtain ⟨k1, k2⟩ := hcl _ hm
          exact ⟨a, C0, dx, gs, w, ev, hH, k1, k2, hl, cc d x u w H1 Z1 Fs1 F2 S1 t1 hd hu (foc.trans foc3)⟩
        · exact cc.elim
      · exact cc.elim
    · exact cc.elim
theorem ve_path (hP : VPa X e i fp Tp) : VE X e (getM i fp) Tp (some i) := by
  refine ⟨fun W tk => pe_imp (hP.run W tk) fun σ H Q ⟨Z, env, Fs, S, c⟩ => ⟨Z, env, Fs, S, ?_⟩⟩
  unfold getM bnd at c
  cases qp : fp env with
  | err => rw [qp] at c; exact c.elim
  | exc x fs e1 => rw [qp] at c; exact c
  | ok π e1 =>
    rw [qp] at c
    dsimp only at c
    intro d d1 u v H1 Z1 Fs1 F1 S1 t1 hd hu foc
    have ha : atE e1 i π = some d1 := by
      unfold atE
      rw [hd]
      exact foc.at_
    rw [ha] at c
    exact c v H1 Z1 Fs1 F1 S1 t1 foc.r1 ⟨foc.sub.nodup foc.nd, fun a ha => foc.sub.subset ha⟩
end
end VI
/-! V16: methods and stores that change a value in its place -/
namespace VI
open PySem PySem.Spec L2

theorem not_mem_cons' {α : Type} {a b : α} {l : List α} (h : a ≠ b ∧ a ∉ l) : a ∉ b :: l := fun z => (List.mem_cons.mp z).elim h.1 h.2
section
variable {K : PySem.W.Frag} {mg : Mg} {Z Z' Z0 Z1 Z2 : Addr → Prop} {H H' H0 H1 H2 : Hp} {σ : L2.St} {env env' env0 env1 env2 : Env} {Fs Fs' Fs0 Fs1 Fs2 : Nat → List Addr} {T T' T1 T2 : Nat → Bool}
theorem mut_done {i : Nat} {π : List Stp} {d d1 d2 dn : D} {u v : V} {F1 F2 Fa : List Addr} (S : SR K mg Z1 H1 σ env1 Fs1) (t : Tr T Z H env Fs Z1 H1 env1 Fs1) (foc : Foc K mg Z1 H1 d u (Fs1 i) π d1 v F1) (hd : env1.s[i]? = some (some d)) (hu : σ[i]? = some (some u))
    (pa : ∀ a ∈ Fa, (∀ j, a ∉ Fs1 j) ∧ ¬ Z1 a ∧ ((∃ j, a ∈ Fs j) ∨ H a = none)) (keep : ∀ a o, H1 a = some o → a ∉ F1 → H' a = some o) (gr : ∀ a, H' a = none → H1 a = none) (r2 : Rep K mg Z1 H' d2 v F2) (n2 : F2.Nodup) (s2 : ∀ a ∈ F2, a ∈ F1 ∨ a ∈ Fa)
    (hup : d.upd π d2 = some dn) : ∃ G, SR K mg Z1 H' σ (env1.put i dn) (fset Fs1 i G) ∧ Tr (tor T (T1' i)) Z H env Fs Z1 H' (env1.put i dn) (fset Fs1 i G) ∧
      ∀ a, a ∈ F1 ∨ a ∈ Fa → a ∉ F2 → (∀ j, a ∉ fset Fs1 i G j) ∧ ¬ Z1 a ∧ ((∃ j, a ∈ Fs j) ∨ H a = none) := by
  have sub : ∀ a ∈ F1, a ∈ Fs1 i := fun a ha => foc.sub.subset ha
  have keepF : ∀ a o, H1 a = some o → a ∉ Fs1 i → H' a = some o := fun a o e n => keep a o e fun z => n (sub a z)
  have stay : Stay Z1 Z1 H1 H' := ⟨fun _ h => h, fun a h => by
    obtain ⟨o, e⟩ := S.zs a h
    rw [e]
    exact keepF a o e fun q => S.zf i a q h⟩
  obtain ⟨G, q1, q2, q3⟩ := foc.up Z1 H' d2 F2 dn hup stay (fun a ha n => by
    obtain ⟨o, e⟩ := S.tr ha
    rw [e]
    exact keep a o e n) r2
  have nG : G.Nodup := q3 n2 fun a ha hb => (s2 a ha).resolve_right fun z => (pa a z).1 i hb
  have gs : ∀ a ∈ G, a ∈ Fs1 i ∨ a ∈ Fa := fun a ha => by
    rcases q2 a ha with z | z
    · exact (s2 a z).imp_left (sub a)
    · exact .inl z.1
  refine ⟨G, S.mut2 hd hu keepF q1 nG fun a ha => ?_, t.mut2 S keepF gr fun a ha => ?_, fun a ha hn => ⟨fun j hj => ?_, ?_, ?_⟩⟩
  · rcases gs a ha with z | z
    · exact ⟨fun j hj w => S.dj i j (Ne.symm hj) a z w, S.zf i a z⟩
    · exact ⟨fun j _ => (pa a z).1 j, (pa a z).2.1⟩
  · rcases gs a ha with z | z
    · exact t.new i a z
    · exact (pa a z).2.2
  · by_cases e : j = i
    · subst e
      rw [fset_self] at hj
      rcases q2 a hj with z | z
      · exact hn z
      · rcases ha with ha | ha
        · exact z.2 ha
        · exact (pa a ha).1 j z.1
    · rw [fset_ne e] at hj
      rcases ha with ha | ha
      · exact S.dj i j (Ne.symm e) a (sub a ha) hj
      · exact (pa a ha).1 j hj
  · rcases ha with ha | ha
    · exact S.zf i a (sub a ha)
    · exact (pa a ha).2.1
  · rcases ha with ha | ha
    · exact t.new i a (sub a ha)
    · exact (pa a ha).2.2
/-- an item is taken out -/
theorem Reps.out : ∀ {xs : List D} {vs : List V} {F : List Addr} {i : Nat} {x : D}, Reps K mg Z H xs vs F → xs[i]? = some x → F.Nodup →
    ∃ v F1 G, vs[i]? = some v ∧ Rep K mg Z H x v F1 ∧ Reps K mg Z H (xs.eraseIdx i) (vs.eraseIdx i) G ∧ F1.Nodup ∧ G.Nodup ∧ (∀ a ∈ F1, a ∈ F) ∧ (∀ a ∈ G, a ∈ F) ∧ ∀ a ∈ G, a ∉ F1
  | [], vs, F, i, x, r, h, nd => by simp at h
  | x0 :: xs, vs, F, 0, x, r, h, nd => by
    simp only [List.getElem?_cons_zero, Option.some.injEq] at h
    subst h
    simp only [Reps] at r
    obtain ⟨v, us, F1, F2, rfl, r1, r2, rfl⟩ := r
    rw [List.nodup_append] at nd
    exact ⟨v, F1, F2, rfl, r1, r2, nd.1, nd.2.1, fun a ha => List.mem_append_left _ ha, fun a ha => List.mem_append_right _ ha, fun a ha hb => nd.2.2 a hb a ha rfl⟩
  | x0 :: xs, vs, F, i + 1, x, r, h, nd => by
    simp only [List.getElem?_cons_succ] at h
    simp only [Reps] at r
    obtain ⟨v0, us, Fa, Fb, rfl, r1, r2, rfl⟩ := r
    rw [List.nodup_append] at nd
    obtain ⟨v, F1, G, e1, q1, q2, n1, n2, s1, s2, dj⟩ := Reps.out r2 h nd.2.1
    refine ⟨v, F1, Fa ++ G, e1, q1, Reps.cons r1 q2, n1, List.nodup_append.mpr ⟨nd.1, n2, fun a ha b hb e => ?_⟩, fun a ha => List.mem_append_right _ (s1 a ha), fun a ha => ?_, fun a ha => ?_⟩
    · subst e
      exact nd.2.2 a ha a (s2 a hb) rfl
    · rcases List.mem_append.mp ha with z | z
      · exact List.mem_append_left _ z
      · exact List.mem_append_right _ (s2 a z)
    · rcases List.mem_append.mp ha with z | z
      · exact fun w => nd.2.2 a z a (s1 a w) rfl
      · exact dj a z
/-- an item is exchanged -/
theorem Reps.setv : ∀ {xs : List D} {vs : List V} {F Fy : List Addr} {i : Nat} {y : D} {w : V}, Reps K mg Z H xs vs F → i < xs.length → F.Nodup → Rep K mg Z H y w Fy → Fy.Nodup → (∀ a ∈ Fy, a ∉ F) →
    ∃ G, Reps K mg Z H (xs.set i y) (vs.set i w) G ∧ G.Nodup ∧ ∀ a ∈ G, a ∈ F ∨ a ∈ Fy
  | [], vs, F, Fy, i, y, w, r, h, nd, ry, ny, ap => by simp at h
  | x0 :: xs, vs, F, Fy, 0, y, w, r, h, nd, ry, ny, ap => by
    simp only [Reps] at r
    obtain ⟨v, us, F1, F2, rfl, r1, r2, rfl⟩ := r
    rw [List.nodup_append] at nd
    refine ⟨Fy ++ F2, Reps.cons ry r2, List.nodup_append.mpr ⟨ny, nd.2.1, fun a ha b hb e => ?_⟩, fun a ha => ?_⟩
    · subst e
      exact ap a ha (List.mem_append_right _ hb)
    · rcases List.mem_append.mp ha with z | z
      · exact .inr z
      · exact .inl (List.mem_append_right _ z)
  | x0 :: xs, vs, F, Fy, i + 1, y, w, r, h, nd, ry, ny, ap => by
    simp only [Reps] at r
    obtain ⟨v0, us, Fa, Fb, rfl, r1, r2, rfl⟩ := r
    rw [List.nodup_append] at nd
    obtain ⟨G, q1, q2, q3⟩ := Reps.setv r2 (by simpa using h) nd.2.1 ry ny fun a ha z => ap a ha (List.mem_append_right _ z)
    refine ⟨Fa ++ G, Reps.cons r1 q1, List.nodup_append.mpr ⟨nd.1, q2, fun a ha b hb e => ?_⟩, fun a ha => ?_⟩
    · subst e
      rcases q3 a hb with z | z
      · exact nd.2.2 a ha a z rfl
      · exact ap a z (List.mem_append_left _ ha)
    · rcases List.mem_append.mp ha with z | z
      · exact .inl (List.mem_append_left _ z)
      · exact (q3 a z).imp_left (List.mem_append_right _)
theorem keysD_snoc : ∀ {xs : List (D × D)} {ks : List Key} {k : D} {kk : Key} {y : D}, keysD xs = some ks → keyD k = some kk → keysD (xs ++ [(k, y)]) = some (ks ++ [kk])
  | [], ks, k, kk, y, h, hk => by
    simp only [keysD, Option.some.injEq] at h
    subst h
    simp [keysD, hk]
  | (k0, x0) :: xs, ks, k, kk, y, h, hk => by
    simp only [keysD] at h
    split at h
    · rename_i a b ea eb
      cases h
      simp only [List.cons_append, keysD, ea, keysD_snoc eb hk]
    · cases h
theorem Repk.length : ∀ {xs : List (D × D)} {ks : List Key} {vs : List V} {F : List Addr}, Repk K mg Z H xs vs F → keysD xs = some ks → vs.length = xs.length ∧ ks.length = xs.length
  | [], ks, vs, F, r, hk => by
    simp only [Repk, keysD, Option.some.injEq] at r hk
    rw [r.1, ← hk]
    exact ⟨rfl, rfl⟩
  | (k0, x0) :: xs, ks, vs, F, r, hk => by
    simp only [Repk] at r
    obtain ⟨v0, us, Fa, Fb, rfl, r1, r2, rfl⟩ := r
    simp only [keysD] at hk
    split at hk
    · rename_i a b ea eb
      cases hk
      obtain ⟨h1, h2⟩ := Repk.length r2 eb
      simp [h1, h2]
    · cases hk
theorem Repk.snoc : ∀ {xs : List (D × D)} {vs : List V} {F Fy : List Addr} {k y : D} {w : V}, Repk K mg Z H xs vs F → Rep K mg Z H y w Fy → Repk K mg Z H (xs ++ [(k, y)]) (vs ++ [w]) (F ++ Fy)
  | [], vs, F, Fy, k, y, w, r, ry => by
    simp only [Repk] at r
    obtain ⟨rfl, rfl⟩ := r
    simp only [List.nil_append, Repk]
    exact ⟨w, [], Fy, [], rfl, ry, ⟨rfl, rfl⟩, by simp⟩
  | (k0, x0) :: xs, vs, F, Fy, k, y, w, r, ry => by
    simp only [Repk] at r
    obtain ⟨v0, us, Fa, Fb, rfl, r1, r2, rfl⟩ := r
    simp only [List.cons_append, Repk]
    exact ⟨v0, us ++ [w], Fa, Fb ++ Fy, rfl, r1, Repk.snoc r2 ry, by simp⟩
theorem dAt_none : ∀ {xs : List (D × D)} {ks : List Key} {k : Key}, keysD xs = some ks → dAt xs k = none → k ∉ ks
  | [], ks, k, hk, h => by
    simp only [keysD, Option.some.injEq] at hk
    subst hk
    simp
  | (k0, x0) :: xs, ks, k, hk, h => by
    simp only [keysD] at hk
    split at hk
    · rename_i a b ea eb
      cases hk
      simp only [dAt, ea] at h
      split at h
      · cases h
      · rename_i hne
        exact not_mem_cons' ⟨fun z => hne (by rw [z]), dAt_none eb h⟩
    · cases hk
/-- a dict's item is exchanged -/
theorem Repk.setv : ∀ {xs : List (D × D)} {ks : List Key} {vs : List V} {F Fy : List Addr} {k : Key} {y x : D} {w : V}, Repk K mg Z H xs vs F → keysD xs = some ks → ks.Nodup → dAt xs k = some x → F.Nodup → Rep K mg Z H y w Fy → Fy.Nodup → (∀ a ∈ Fy, a ∉ F) →
    keysD (dSet xs k y) = some ks ∧ ∃ us G, putK (ks.zip vs) k w = ks.zip us ∧ Repk K mg Z H (dSet xs k y) us G ∧ G.Nodup ∧ ∀ a ∈ G, a ∈ F ∨ a ∈ Fy
  | [], ks, vs, F, Fy, k, y, x, w, r, hk, kn, h, nd, ry, ny, ap => by simp [dAt] at h
  | (k0, x0) :: xs, ks, vs, F, Fy, k, y, x, w, r, hk, kn, h, nd, ry, ny, ap => by
    have r0 := r
    simp only [Repk] at r
    obtain ⟨v0, us, Fa, Fb, rfl, r1, r2, rfl⟩ := r
    rw [List.nodup_append] at nd
    simp only [keysD] at hk
    split at hk
    · rename_i a b ea eb
      cases hk
      obtain ⟨kn1, kn2⟩ := List.nodup_cons.mp kn
      by_cases hq : a = k
      · subst hq
        have e2 : dSet ((k0, x0) :: xs) a y = (k0, y) :: xs := by simp only [dSet, ea, if_true]
        refine ⟨by rw [e2]; simp only [keysD, ea, eb], w :: us, Fy ++ Fb, ?_, ?_, List.nodup_append.mpr ⟨ny, nd.2.1, fun c ha d hb e => ?_⟩, fun c ha => ?_⟩
        · have hany : ((a :: b).zip (v0 :: us)).any (fun kv => decide (kv.1 = a)) = true := by simp
          unfold putK
          rw [if_pos hany]
          simp only [List.zip_cons_cons, List.map_cons, if_true, List.cons.injEq, true_and]
          have : ∀ p ∈ b.zip us, ¬ p.1 = a := fun p hp e => kn1 (by
            rw [← e]
            exact (List.of_mem_zip (a := p.1) (b := p.2) hp).1)
          rw [List.map_congr_left (g := id)]
          · simp
          · intro p hp
            simp [this p hp]
        · rw [e2]
          simp only [Repk]
          exact ⟨w, us, Fy, Fb, rfl, ry, r2, rfl⟩
        · subst e
          exact ap c ha (List.mem_append_right _ hb)
        · rcases List.mem_append.mp ha with z | z
          · exact .inr z
          · exact .inl (List.mem_append_right _ z)
      · have hne : ¬ keyD k0 = some k := fun z => hq (by rw [ea] at z; exact Option.some.inj z)
        simp only [dAt, if_neg hne] at h
        obtain ⟨q0, us', G, q1, q2, q3, q4⟩ := Repk.setv r2 eb kn2 h nd.2.1 ry ny fun c hc z => ap c hc (List.mem_append_right _ z)
        have e2 : dSet ((k0, x0) :: xs) k y = (k0, x0) :: dSet xs k y := by simp only [dSet, if_neg hne]
        refine ⟨by rw [e2]; simp only [keysD, ea, q0], v0 :: us', Fa ++ G, ?_, ?_, List.nodup_append.mpr ⟨nd.1, q3, fun c ha d hb e => ?_⟩, fun c ha => ?_⟩
        · have hin : (b.zip us).any (fun kv => decide (kv.1 = k)) = true := by
            obtain ⟨v', F', e', _⟩ := Repk.focus r2 eb h nd.2.1
            rw [valV_any, e']
            rfl
          unfold putK at q1 ⊢
          rw [if_pos hin] at q1
          have hin2 : ((a :: b).zip (v0 :: us)).any (fun kv => decide (kv.1 = k)) = true := by
            simp only [List.zip_cons_cons, List.any_cons, hin, Bool.or_true]
          rw [if_pos hin2]
          simp only [List.zip_cons_cons, List.map_cons, if_neg hq, q1]
        · rw [e2]
          simp only [Repk]
          exact ⟨v0, us', Fa, G, rfl, r1, q2, rfl⟩
        · subst e
          rcases q4 c hb with z | z
          · exact nd.2.2 c ha c z rfl
          · exact ap c z (List.mem_append_left _ ha)
        · rcases List.mem_append.mp ha with z | z
          · exact .inl (List.mem_append_left _ z)
          · exact (q4 c z).imp_left (List.mem_append_right _)
    · cases hk
end
/-- what a step may do to a value's own things -/
structure Chg (H H' : Hp) (F : List Addr) : Prop where
  keep : ∀ a o, H a = some o → a ∉ F → H' a = some o
  gr : ∀ a, H' a = none → H a = none
theorem Chg.upd {H : Hp} {F : List Addr} {a : Addr} {o u : HO} (h : H a = some u) (m : a ∈ F) : Chg H (upd H a o) F :=
  ⟨fun b o' e n => by rw [upd_ne (fun z => n (by rw [z]; exact m))]; exact e, fun b e => by
    by_cases q : b = a
    · subst q; rw [upd_same] at e; cases e
    · rw [upd_ne q] at e; exact e⟩
def MthD (X : Cx) (id : String) (g : D → List D → Option (D × D)) : Prop := ∃ r, MtR X id r ∧ ∀ {Z : Addr → Prop} {H : Hp} {d1 d2 res : D} {ds : List D} {v : V} {vs : List V} {F1 Fa : List Addr} {Q : VK}, (∀ a, Z a → ∃ o, H a = some o) → (∀ a ∈ F1, ¬ Z a) → Rep X.K X.mg Z H d1 v F1 → Reps X.K X.mg Z H ds vs Fa → F1.Nodup → Fa.Nodup → (∀ a ∈ Fa, a ∉ F1) → g d1 ds = some (res, d2) →
  (∀ vr H' F2 Fr, Chg H H' F1 → Rep X.K X.mg Z H' d2 v F2 → Rep X.K X.mg Z H' res vr Fr → F2.Nodup → Fr.Nodup → (∀ a ∈ Fr, a ∉ F2) → (∀ a ∈ F2, a ∈ F1 ∨ a ∈ Fa) → (∀ a ∈ Fr, a ∈ F1 ∨ a ∈ Fa) → Q vr H') → r v vs H Q
def tyD : String → D → Bool
  | T, .lst _ _ => T == "list"
  | T, .dct _ _ => T == "dict"
  | _, _ => false
def mthM (i : Nat) (T : String) (g : D → List D → Option (D × D)) (fp : M (List Stp)) (fa : M (List D)) : M D := bnd fp fun π env => match atE env i π with
  | some d1 => if tyD T d1 = true then bnd fa (fun ds env2 => match g d1 ds with
    | some (res, d2) => (match updE env2 i π d2 with
      | some env' => .ok res env'
      | none => .err)
    | none => .err) env else .err
  | none => .err
theorem tyD_ok {K : PySem.W.Frag} {mg : Mg} {Z : Addr → Prop} {H : Hp} {T : String} {d : D} {v : V} {F : List Addr} (r : Rep K mg Z H d v F) (h : tyD T d = true) : tyV K T v H := by
  unfold tyD at h
  split at h
  · obtain ⟨a, vs, G, rfl, s, _⟩ := lst_sq r
    exact .inl ⟨by simpa using h, vs, s⟩
  · rename_i o kvs
    cases o with
    | true =>
      simp only [Rep] at r
      obtain ⟨a, ks, vs, G, rfl, t, _⟩ := r
      exact .inr (.inr (.inl ⟨by simpa using h, .inl ⟨_, t⟩⟩))
    | false =>
      simp only [Rep] at r
      obtain ⟨a, ks, vs, rfl, t, _⟩ := r
      exact .inr (.inr (.inl ⟨by simpa using h, .inl ⟨_, t⟩⟩))
  · cases h
theorem updE_of {env env' : Env} {i : Nat} {π : List Stp} {d y : D} (hd : env.s[i]? = some (some d)) (h : updE env i π y = some env') : ∃ dn, d.upd π y = some dn ∧ env' = env.put i dn := by
  unfold updE at h
  rw [hd] at h
  dsimp only at h
  split at h
  · rename_i d' e
    cases h
    exact ⟨d', e, rfl⟩
  · cases h
theorem updE_of' {env : Env} {i : Nat} {π : List Stp} {d : D} (hd : env.s[i]? = some (some d)) : atE env i π = d.at π := by
  unfold atE
  rw [hd]
section
variable {X : Cx} {e a b k : Expr} {pos p cpos apos : Pos} {es : List Expr} {i : Nat} {fp : M (List Stp)} {f fk fa : M D} {fl : M (List D)} {T Tp Tk Ta : Nat → Bool} {src sk : Option Nat} {Ty id : String} {name : Str} {g : D → List D → Option (D × D)}
/-- P.m(e, ..) -/
theorem mth_read {W : WX} {σ : L2.St} {H : Hp} {Q : VK} {r : V → List V → Hp → VK → Prop} (ht : Ta i = false)
    (hr : ∀ {Z : Addr → Prop} {H : Hp} {d1 d2 res : D} {ds : List D} {v : V} {vs : List V} {F1 Fa : List Addr} {Q : VK}, (∀ a, Z a → ∃ o, H a = some o) → (∀ a ∈ F1, ¬ Z a) → Rep X.K X.mg Z H d1 v F1 → Reps X.K X.mg Z H ds vs Fa → F1.Nodup → Fa.Nodup → (∀ a ∈ Fa, a ∉ F1) → g d1 ds = some (res, d2) →
      (∀ vr H' F2 Fr, Chg H H' F1 → Rep X.K X.mg Z H' d2 v F2 → Rep X.K X.mg Z H' res vr Fr → F2.Nodup → Fr.Nodup → (∀ a ∈ Fr, a ∉ F2) → (∀ a ∈ F2, a ∈ F1 ∨ a ∈ Fa) → (∀ a ∈ Fr, a ∈ F1 ∨ a ∈ Fa) → Q vr H') → r v vs H Q)
    (h : tE X.K X.mg (mthM i Ty g fp fl) (tor (tor Tp Ta) (T1' i)) none W σ H Q) : tP X.K X.mg i fp Tp W σ H fun x H1 => tyV X.K Ty x H1 ∧ tA X.K X.mg fl Ta W σ H1 fun xs H2 => r x xs H2 Q := by
  obtain ⟨Z, env, Fs, S, c⟩ := h
  refine ⟨Z, env, Fs, S, ?_⟩
  unfold mthM bnd at c
  cases qp : fp env with
  | err => rw [qp] at c; exact c.elim
  | exc x fs e1 =>
    rw [qp] at c
    exact fun cls dd H' Z' Fs' S' t r => c cls dd H' Z' Fs' S' (t.mono fun i q => (tor_sub i (tor_sub i q).1).1) r
  | ok π e1 =>
    rw [qp] at c
    dsimp only at c
    intro d d1 u v H1 Z1 Fs1 F1 S1 t1 hd hu foc
    rw [updE_of' hd, foc.at_] at c
    dsimp only at c
    split at c
    · rename_i hty
      refine ⟨tyD_ok foc.r1 hty, Z1, e1, Fs1, S1, ?_⟩
      cases qa : fl e1 with
      | err => rw [qa] at c; exact c.elim
      | exc x fs e2 =>
        rw [qa] at c
        exact fun cls dd H' Z' Fs' S' t r => c cls dd H' Z' Fs' S' (t1.trans t fun i q => tor_sub i (tor_sub i q).1) r
      | ok ds e2 =>
        rw [qa] at c
        dsimp only at c
        intro vs H2 Z2 Fs2 Fa S2 t2 ra pa
        obtain ⟨foc2, hd2⟩ := foc.over S1 t2 ht hd
        split at c
        · rename_i res d2 hg
          split at c
          · rename_i env' hup
            obtain ⟨dn, hup2, rfl⟩ := updE_of hd2 hup
            have pb := pa.back t1
            have apF : ∀ a ∈ Fa, a ∉ F1 := fun a ha z => (pb.2 a ha).1 i (foc2.sub.subset z)
            refine hr S2.zs (fun a ha => S2.zf i a (foc2.sub.subset ha)) foc2.r1 ra (foc2.sub.nodup foc2.nd) pa.1 apF hg fun vr H' F2 Fr ch q2 qr n2 nr dj s2 sr => ?_
            obtain ⟨G, S3, t3, w⟩ := mut_done S2 (t1.trans t2 (T := tor Tp Ta) fun i q => tor_sub i q) foc2 hd2 hu pb.2 ch.keep ch.gr q2 n2 s2 hup2
            exact c vr H' Z2 _ Fr S3 t3 qr ⟨nr, fun a ha => w a (sr a ha) (dj a ha)⟩
          · exact c.elim
        · exact c.elim
    · exact c.elim
theorem ve_mth (hg : MthD X id g) (pa : PlainAttrs Ty) (slot : Slot Ty name id) (hty : typeOf (.builtin id) = pure (.type "method_descriptor")) (hP : VPa X e i fp Tp) (ha : VA X (a :: es) fl Ta) (ht : Ta i = false)
    (hbase : attributeBase e name X.env (eval e X.env) = eval e X.env := by rfl)
    (hfew : ((backTo cpos (starEach (a :: es) X.env)).all (fun x => !x.1) && (backToKw cpos (keywordEach [] X.env)).all (fun x => x.1.isSome)
      && decide ((a :: es).length + ([] : List Keyword).length + (if ([] : List Keyword).isEmpty then 0 else 1) < 30)) = true := by rfl)
    (hline : (apos.endLine == cpos.line) = true := by rfl) (hs : starEach (a :: es) X.env = (false, eval a X.env) :: starEach es X.env := by rfl) (hplain : (backTo cpos (starEach es X.env)).any (·.1) = false := by rfl) :
    VE X (.Call (.Attribute e name apos) (a :: es) [] cpos) (mthM i Ty g fp fl) (tor (tor Tp Ta) (T1' i)) none := by
  obtain ⟨r, h1, h2⟩ := hg
  exact ⟨fun W tk => pe_imp (pe_bm pa slot hty h1 (hP.run W tk) (ha.run W tk) hbase hfew hline hs hplain) fun σ H Q h => mth_read ht h2 h⟩
theorem ve_mth0 (hg : MthD X id g) (pa : PlainAttrs Ty) (slot : Slot Ty name id) (hty : typeOf (.builtin id) = pure (.type "method_descriptor")) (hP : VPa X e i fp Tp)
    (hbase : attributeBase e name X.env (eval e X.env) = eval e X.env := by rfl) (hline : (apos.endLine == cpos.line) = true := by rfl) : VE X (.Call (.Attribute e name apos) [] [] cpos) (mthM i Ty g fp (pur [])) (tor (tor Tp T0) (T1' i)) none := by
  obtain ⟨r, h1, h2⟩ := hg
  refine ⟨fun W tk => pe_imp (pe_bm0 pa slot hty h1 (hP.run W tk) hbase hline) fun σ H Q h => ?_⟩
  have := mth_read (Ta := T0) rfl h2 h
  obtain ⟨Z, env, Fs, S, c⟩ := this
  refine ⟨Z, env, Fs, S, ?_⟩
  cases q : fp env with
  | err => rw [q] at c; exact c
  | exc x fs e1 => rw [q] at c; exact c
  | ok π e1 =>
    rw [q] at c
    intro d d1 u v H1 Z1 Fs1 F1 S1 t1 hd hu foc
    obtain ⟨h3, Z2, env2, Fs2, S2, h4⟩ := c d d1 u v H1 Z1 Fs1 F1 S1 t1 hd hu foc
    exact ⟨h3, h4 [] H1 Z2 Fs2 [] S2 Tr.refl Reps.nil VP.nil⟩
end
def appendG : D → List D → Option (D × D)
  | .lst true xs, [y] => if xs.length < 16777216 then some (.non, .lst true (xs ++ [y])) else none
  | _, _ => none
def extendG : D → List D → Option (D × D)
  | .lst true xs, [.lst true ys] => if xs.length + ys.length ≤ 16777216 then some (.non, .lst true (xs ++ ys)) else none
  | _, _ => none
def popG : D → List D → Option (D × D)
  | .lst true xs, [] => (match xs[xs.length - 1]? with
    | some y => some (y, .lst true (xs.eraseIdx (xs.length - 1)))
    | none => none)
  | _, _ => none
def popAtG : D → List D → Option (D × D)
  | .lst true xs, [.int i] => if small62 i = true then (match ixN xs.length i with
    | some k => (match xs[k]? with
      | some y => some (y, .lst true (xs.eraseIdx k))
      | none => none)
    | none => none) else none
  | _, _ => none
section
variable {X : Cx}
theorem md_append : MthD X "list.append" appendG := by
  refine ⟨_, mt_append, fun {Z H d1 d2 res ds v vs F1 Fa Q} zs zf r ra n1 na ap hg q => ?_⟩
  unfold appendG at hg
  split at hg
  · rename_i xs y
    split at hg
    · rename_i hl
      cases hg
      have r0 := r
      simp only [Rep] at r
      obtain ⟨a, us, G, rfl, t, rs, rfl⟩ := r
      simp only [Reps] at ra
      obtain ⟨w, _, F3, F4, rfl, rw', ⟨rfl, rfl⟩, rfl⟩ := ra
      rw [List.append_nil] at *
      have nd := List.nodup_cons.mp n1
      have st : Stay Z Z H (upd H a (.lst (us ++ [w]))) := ⟨fun _ h => h, fun b hb => upd_ne fun z => zf a List.mem_cons_self (by rw [← z]; exact hb)⟩
      refine ⟨a, us, w, rfl, rfl, t, by rw [rs.length, sizeLine_eq]; exact hl, q .non _ (a :: (G ++ F3)) [] (Chg.upd t List.mem_cons_self) ?_ (by simp [Rep]) ?_ List.nodup_nil (fun _ h => by simp at h) (fun b hb => ?_) (fun _ h => by simp at h)⟩
      · simp only [Rep]
        exact ⟨a, _, _, rfl, upd_same, Reps.app (Reps.stay st rs fun b hb => upd_ne fun z => nd.1 (by rw [← z]; exact hb)) (Reps.one (rw'.stay st fun b hb => upd_ne fun z => ap b hb (by rw [z]; exact List.mem_cons_self))), rfl⟩
      · refine List.nodup_cons.mpr ⟨fun z => ?_, List.nodup_append.mpr ⟨nd.2, na, fun b hb c hc e => ?_⟩⟩
        · rcases List.mem_append.mp z with z | z
          · exact nd.1 z
          · exact ap a z List.mem_cons_self
        · subst e
          exact ap b hc (List.mem_cons_of_mem _ hb)
      · rcases List.mem_cons.mp hb with rfl | hb
        · exact .inl List.mem_cons_self
        · exact (List.mem_append.mp hb).imp_left (List.mem_cons_of_mem _)
    · cases hg
  · cases hg
theorem md_extend : MthD X "list.extend" extendG := by
  refine ⟨_, mt_extend, fun {Z H d1 d2 res ds v vs F1 Fa Q} zs zf r ra n1 na ap hg q => ?_⟩
  unfold extendG at hg
  split at hg
  · rename_i xs ys
    split at hg
    · rename_i hl
      cases hg
      simp only [Rep] at r
      obtain ⟨a, us, G, rfl, t, rs, rfl⟩ := r
      simp only [Reps, Rep] at ra
      obtain ⟨w, _, F3, F4, rfl, ⟨b, ws, G2, rfl, t2, rs2, rfl⟩, ⟨rfl, rfl⟩, rfl⟩ := ra
      rw [List.append_nil] at *
      have nd := List.nodup_cons.mp n1
      have nd2 := List.nodup_cons.mp na
      have st : Stay Z Z H (upd H a (.lst (us ++ ws))) := ⟨fun _ h => h, fun b hb => upd_ne fun z => zf a List.mem_cons_self (by rw [← z]; exact hb)⟩
      refine ⟨a, b, us, ws, rfl, rfl, t, t2, by rw [rs.length, rs2.length, sizeLine_eq]; exact hl, q .non _ (a :: (G ++ G2)) [] (Chg.upd t List.mem_cons_self) ?_ (by simp [Rep]) ?_ List.nodup_nil (fun _ h => by simp at h) (fun c hc => ?_) (fun _ h => by simp at h)⟩
      · simp only [Rep]
        exact ⟨a, _, _, rfl, upd_same, Reps.app (Reps.stay st rs fun b hb => upd_ne fun z => nd.1 (by rw [← z]; exact hb)) (Reps.stay st rs2 fun c hc => upd_ne fun z => ap c (List.mem_cons_of_mem _ hc) (by rw [z]; exact List.mem_cons_self)), rfl⟩
      · refine List.nodup_cons.mpr ⟨fun z => ?_, List.nodup_append.mpr ⟨nd.2, nd2.2, fun c hc d hd e => ?_⟩⟩
        · rcases List.mem_append.mp z with z | z
          · exact nd.1 z
          · exact ap a (List.mem_cons_of_mem _ z) List.mem_cons_self
        · subst e
          exact ap c (List.mem_cons_of_mem _ hd) (List.mem_cons_of_mem _ hc)
      · rcases List.mem_cons.mp hc with rfl | hc
        · exact .inl List.mem_cons_self
        · rcases List.mem_append.mp hc with z | z
          · exact .inl (List.mem_cons_of_mem _ z)
          · exact .inr (List.mem_cons_of_mem _ z)
    · cases hg
  · cases hg
theorem dropLast_erase {α : Type} : ∀ (l : List α), l.eraseIdx (l.length - 1) = l.dropLast
  | [] => rfl
  | [x] => rfl
  | x :: y :: r => by
    have := dropLast_erase (y :: r)
    simp only [List.length_cons, Nat.add_sub_cancel] at this ⊢
    rw [List.eraseIdx_cons_succ, this]
    rfl
theorem md_pop : MthD X "list.pop" popG := by
  refine ⟨_, mt_pop, fun {Z H d1 d2 res ds v vs F1 Fa Q} zs zf r ra n1 na ap hg q => ?_⟩
  unfold popG at hg
  split at hg
  · rename_i xs
    split at hg
    · rename_i y hy
      cases hg
      simp only [Rep] at r
      obtain ⟨a, us, G, rfl, t, rs, rfl⟩ := r
      simp only [Reps] at ra
      obtain ⟨rfl, rfl⟩ := ra
      have nd := List.nodup_cons.mp n1
      obtain ⟨w, Fy, G', e1, q1, q2, m1, m2, s1, s2, dj⟩ := Reps.out rs hy nd.2
      rw [← rs.length] at e1 q2
      have st : Stay Z Z H (upd H a (.lst us.dropLast)) := ⟨fun _ h => h, fun b hb => upd_ne fun z => zf a List.mem_cons_self (by rw [← z]; exact hb)⟩
      refine ⟨a, us, w, rfl, rfl, t, e1, q w _ (a :: G') Fy (Chg.upd t List.mem_cons_self) ?_ (q1.stay st fun b hb => upd_ne fun z => nd.1 (by rw [← z]; exact s1 b hb)) ?_ m1 (fun b hb => ?_) (fun b hb => .inl ?_) fun b hb => .inl (List.mem_cons_of_mem _ (s1 b hb))⟩
      · simp only [Rep]
        refine ⟨a, _, _, rfl, upd_same, ?_, rfl⟩
        rw [dropLast_erase, rs.length] at q2
        exact Reps.stay st q2 fun b hb => upd_ne fun z => nd.1 (by rw [← z]; exact s2 b hb)
      · exact List.nodup_cons.mpr ⟨fun z => nd.1 (s2 a z), m2⟩
      · refine not_mem_cons' ⟨fun z => nd.1 (by rw [← z]; exact s1 b hb), fun z => dj b z hb⟩
      · rcases List.mem_cons.mp hb with rfl | hb
        · exact List.mem_cons_self
        · exact List.mem_cons_of_mem _ (s2 b hb)
    · cases hg
  · cases hg
theorem md_popAt : MthD X "list.pop" popAtG := by
  refine ⟨_, mt_popAt, fun {Z H d1 d2 res ds v vs F1 Fa Q} zs zf r ra n1 na ap hg q => ?_⟩
  unfold popAtG at hg
  split at hg
  · rename_i xs i
    split at hg
    · rename_i hsm
      split at hg
      · rename_i k hk
        split at hg
        · rename_i y hy
          cases hg
          simp only [Rep] at r
          obtain ⟨a, us, G, rfl, t, rs, rfl⟩ := r
          simp only [Reps, Rep] at ra
          obtain ⟨w0, _, F3, F4, rfl, ⟨rfl, rfl⟩, ⟨rfl, rfl⟩, rfl⟩ := ra
          have nd := List.nodup_cons.mp n1
          obtain ⟨w, Fy, G', e1, q1, q2, m1, m2, s1, s2, dj⟩ := Reps.out rs hy nd.2
          obtain ⟨b1, b2⟩ := small62_iff hsm
          have st : Stay Z Z H (upd H a (.lst (us.eraseIdx k))) := ⟨fun _ h => h, fun b hb => upd_ne fun z => zf a List.mem_cons_self (by rw [← z]; exact hb)⟩
          refine ⟨a, us, i, k, w, rfl, rfl, t, by omega, by omega, by rw [rs.length]; exact (ixN_seq hk).1, e1, q w _ (a :: G') Fy (Chg.upd t List.mem_cons_self) ?_ (q1.stay st fun b hb => upd_ne fun z => nd.1 (by rw [← z]; exact s1 b hb)) ?_ m1 (fun b hb => ?_) (fun b hb => .inl ?_) fun b hb => .inl (List.mem_cons_of_mem _ (s1 b hb))⟩
          · simp only [Rep]
            exact ⟨a, _, _, rfl, upd_same, Reps.stay st q2 fun b hb => upd_ne fun z => nd.1 (by rw [← z]; exact s2 b hb), rfl⟩
          · exact List.nodup_cons.mpr ⟨fun z => nd.1 (s2 a z), m2⟩
          · exact not_mem_cons' ⟨fun z => nd.1 (by rw [← z]; exact s1 b hb), fun z => dj b z hb⟩
          · rcases List.mem_cons.mp hb with rfl | hb
            · exact List.mem_cons_self
            · exact List.mem_cons_of_mem _ (s2 b hb)
        · cases hg
      · cases hg
    · cases hg
  · cases hg
end
end VI
/-! V17: stores, displays of dicts, several targets -/
namespace VI
open PySem PySem.Spec L2

/-- d[k] = y -/
def setD : D → D → D → Option D
  | .lst true xs, .int k, y => (ixN xs.length k).map fun j => .lst true (xs.set j y)
  | .dct true kvs, k, y => match keyD k with
    | some kk => (match dAt kvs kk with
      | some _ => if kvs.length < 16777216 then some (.dct true (dSet kvs kk y)) else none
      | none => if kvs.length < 16777216 then some (.dct true (kvs ++ [(k, y)])) else none)
    | none => none
  | _, _, _ => none
def storeM (i : Nat) (fe : M D) (fp : M (List Stp)) (fk : M D) : M Fl := bnd fe fun y => bnd fp fun π => bnd fk fun dk env => match atE env i π with
  | some d1 => (match setD d1 dk y with
    | some d2 => (match updE env i π d2 with
      | some env' => .ok .nx env'
      | none => .err)
    | none => .err)
  | none => .err
def rSetB : TSet := fun o i v H Q => rSetL o i v H Q ∨ rSetD o i v H Q
section
variable {X : Cx}
theorem set_B (hu : X.A.units + 1 < cLine) : PSet X rSetB := by
  intro pins s σ H o i v ov iv u Q I ro ri rv h
  rcases h with h | h
  · exact set_list pins s σ H o i v ov iv u Q I ro ri rv h
  · exact set_dict hu pins s σ H o i v ov iv u Q I ro ri rv h
theorem setD_ok {K : PySem.W.Frag} {mg : Mg} {Z : Addr → Prop} {H : Hp} {d1 dk y d2 : D} {v vk vy : V} {F1 Fk Fy : List Addr} {Q : Hp → Prop} (zf : ∀ a ∈ F1, ¬ Z a) (r : Rep K mg Z H d1 v F1) (rk : Rep K mg Z H dk vk Fk) (ry : Rep K mg Z H y vy Fy) (n1 : F1.Nodup) (ny : Fy.Nodup) (ap : ∀ a ∈ Fy, a ∉ F1) (h : setD d1 dk y = some d2)
    (q : ∀ H' F2, Chg H H' F1 → Rep K mg Z H' d2 v F2 → F2.Nodup → (∀ a ∈ F2, a ∈ F1 ∨ a ∈ Fy) → Q H') : rSetB v vk vy H Q := by
  unfold setD at h
  split at h
  · rename_i xs k
    cases e : ixN xs.length k with
    | none => rw [e] at h; cases h
    | some j =>
      rw [e] at h
      cases h
      simp only [Rep] at r rk
      obtain ⟨a, vs, G, rfl, t, rs, rfl⟩ := r
      have nd := List.nodup_cons.mp n1
      obtain ⟨G2, q1, q2, q3⟩ := Reps.setv (i := j) rs (ixN_seq e).2.1 nd.2 ry ny fun b hb z => ap b hb (List.mem_cons_of_mem _ z)
      have st : Stay Z Z H (upd H a (.lst (vs.set j vy))) := ⟨fun _ h => h, fun b hb => upd_ne fun z => zf a List.mem_cons_self (by rw [← z]; exact hb)⟩
      have na : a ∉ G2 := fun z => by
        rcases q3 a z with w | w
        · exact nd.1 w
        · exact ap a w List.mem_cons_self
      refine .inl ⟨a, vs, k, j, rfl, rk.1, t, by rw [rs.length]; exact e, q _ (a :: G2) (Chg.upd t List.mem_cons_self) ?_ (List.nodup_cons.mpr ⟨na, q2⟩) fun b hb => ?_⟩
      · simp only [Rep]
        exact ⟨a, _, G2, rfl, upd_same, Reps.stay st q1 fun b hb => upd_ne fun z => na (by rw [← z]; exact hb), rfl⟩
      · rcases List.mem_cons.mp hb with rfl | hb
        · exact .inl List.mem_cons_self
        · exact (q3 b hb).imp_left (List.mem_cons_of_mem _)
  · rename_i kvs
    split at h
    · rename_i kk ek
      simp only [Rep] at r
      obtain ⟨a, ks, vs, G, rfl, t, hk, rs, rfl⟩ := r
      have nd := List.nodup_cons.mp n1
      obtain ⟨l1, l2⟩ := Repk.length rs hk.1
      have hv := rep_key rk ek
      split at h
      · rename_i x hx
        split at h
        case isFalse => cases h
        rename_i hl
        cases h
        obtain ⟨z1, us, G2, z2, q1, q2, q3⟩ := Repk.setv rs hk.1 hk.2 hx nd.2 ry ny fun b hb z => ap b hb (List.mem_cons_of_mem _ z)
        have st : Stay Z Z H (upd H a (.dK (ks.zip us))) := ⟨fun _ h => h, fun b hb => upd_ne fun z => zf a List.mem_cons_self (by rw [← z]; exact hb)⟩
        have na : a ∉ G2 := fun z => by
          rcases q3 a z with w | w
          · exact nd.1 w
          · exact ap a w List.mem_cons_self
        have hlen : (ks.zip vs).length < sizeLine := by rw [List.length_zip, l1, l2, Nat.min_self, sizeLine_eq]; exact hl
        refine .inr ⟨a, _, rfl, by rw [hv]; exact DPut.k t hlen, ?_⟩
        rw [z2]
        refine q _ (a :: G2) (Chg.upd t List.mem_cons_self) ?_ (List.nodup_cons.mpr ⟨na, q2⟩) fun b hb => ?_
        · simp only [Rep]
          exact ⟨a, ks, us, G2, rfl, upd_same, ⟨z1, hk.2⟩, Repk.stay st q1 fun b hb => upd_ne fun z => na (by rw [← z]; exact hb), rfl⟩
        · rcases List.mem_cons.mp hb with rfl | hb
          · exact .inl List.mem_cons_self
          · exact (q3 b hb).imp_left (List.mem_cons_of_mem _)
      · rename_i hx
        split at h
        · rename_i hl
          cases h
          have nk : kk ∉ ks := dAt_none hk.1 hx
          have hn : valV (ks.zip vs) kk = none := by
            cases e : valV (ks.zip vs) kk with
            | none => rfl
            | some w =>
              exfalso
              unfold valV at e
              cases e2 : (ks.zip vs).find? (fun kv => decide (kv.1 = kk)) with
              | none => rw [e2] at e; cases e
              | some p =>
                have h1 := List.find?_some e2
                have h2 := List.mem_of_find?_eq_some e2
                have h3 : p.1 = kk := by simpa using h1
                exact nk (by rw [← h3]; exact (List.of_mem_zip (a := p.1) (b := p.2) h2).1)
          have st : Stay Z Z H (upd H a (.dK ((ks ++ [kk]).zip (vs ++ [vy])))) := ⟨fun _ h => h, fun b hb => upd_ne fun z => zf a List.mem_cons_self (by rw [← z]; exact hb)⟩
          have ez : putK (ks.zip vs) kk vy = (ks ++ [kk]).zip (vs ++ [vy]) := by
            rw [putK_new vy hn, List.zip_append (by rw [l1, l2])]
            rfl
          have hlen : (ks.zip vs).length < sizeLine := by rw [List.length_zip, l1, l2, Nat.min_self, sizeLine_eq]; exact hl
          refine .inr ⟨a, _, rfl, by rw [hv]; exact DPut.k t hlen, ?_⟩
          rw [ez]
          refine q _ (a :: (G ++ Fy)) (Chg.upd t List.mem_cons_self) ?_ (List.nodup_cons.mpr ⟨fun z => ?_, List.nodup_append.mpr ⟨nd.2, ny, fun b hb c hc e => ?_⟩⟩) fun b hb => ?_
          · simp only [Rep]
            refine ⟨a, ks ++ [kk], vs ++ [vy], G ++ Fy, rfl, upd_same, ⟨keysD_snoc hk.1 ek, ?_⟩, Repk.stay st (Repk.snoc rs ry) fun b hb => upd_ne fun z => ?_, rfl⟩
            · refine List.nodup_append.mpr ⟨hk.2, by simp, fun c hc d hd e => ?_⟩
              subst e
              exact nk (by rw [← List.mem_singleton.mp hd]; exact hc)
            · subst z
              rcases List.mem_append.mp hb with w | w
              · exact nd.1 w
              · exact ap b w List.mem_cons_self
          · rcases List.mem_append.mp z with w | w
            · exact nd.1 w
            · exact ap a w List.mem_cons_self
          · subst e
            exact ap b hc (List.mem_cons_of_mem _ hb)
          · rcases List.mem_cons.mp hb with rfl | hb
            · exact .inl List.mem_cons_self
            · exact (List.mem_append.mp hb).imp_left (List.mem_cons_of_mem _)
        · cases h
    · cases h
  · cases h
end
section
variable {X : Cx} {e o k : Expr} {pos p p' : Pos} {i : Nat} {fp : M (List Stp)} {fe fk : M D} {Te Tp Tk : Nat → Bool} {sk : Option Nat}
/-- P[k] = e -/
theorem vs_store (hu : X.A.units + 1 < cLine) (he : VE X e fe Te none) (hP : VPa X o i fp Tp) (hk : VE X k fk Tk sk) (ht : Tk i = false)
    (ha : ∀ v, assign (.Subscript o k p') X.env v = (do
      let ov ← holding [v] (eval o X.env)
      let iv ← holding [v, ov] (eval k X.env)
      standAt p'
      holding [v, ov, iv] (setItem ov iv v)
      release [v, ov, iv] []) := by intro _; rfl) (hs : swapsWithSole [.Subscript o k p'] e pos.line X.env = pure false := by rfl) (hw : swappedStores [.Subscript o k p'] e X.env = pure none := by rfl)
    (h1 : (assignEach [.Subscript o k p'] X.env).map (·.2) = [assign (.Subscript o k p') X.env] := by rfl) :
    VS X (.Assign [.Subscript o k p'] e pos) (storeM i fe fp fk) (tor (tor Te (tor Tp Tk)) (T1' i)) := by
  refine ⟨fun W tk => ps_imp (ps_asg (he.run W tk) (pg_sub (hP.run W tk) (hk.run W tk) (set_B hu) ha) hs hw h1) fun D0 σ H ⟨Z, env, Fs, S, c⟩ => ⟨Z, env, Fs, S, ?_⟩⟩
  unfold storeM bnd at c
  have m1 : ∀ i_1, tor (tor Te (tor Tp Tk)) (T1' i) i_1 = false → Te i_1 = false := fun j q => (tor_sub j (tor_sub j q).1).1
  cases q : fe env with
  | err => rw [q] at c; exact c.elim
  | exc x fs e1 => rw [q] at c; exact fun cls dd H' Z' Fs' S t r => c cls dd σ H' Z' Fs' S (t.mono m1) Pin.refl r
  | ok y e1 =>
    rw [q] at c
    dsimp only at c
    intro vy H1 Z1 Fs1 Fy S1 t1 ry py
    refine ⟨Z1, e1, Fs1, S1, ?_⟩
    cases qp : fp e1 with
    | err => rw [qp] at c; exact c.elim
    | exc x fs e2 =>
      rw [qp] at c
      exact fun cls dd H' Z' Fs' S t r => c cls dd σ H' Z' Fs' S (t1.trans t fun j q => ⟨m1 j q, (tor_sub j (tor_sub j (tor_sub j q).1).2).1⟩) Pin.refl r
    | ok π e2 =>
      rw [qp] at c
      dsimp only at c
      intro d d1 u v H2 Z2 Fs2 F1 S2 t2 hd hu' foc
      refine ⟨Z2, e2, Fs2, S2, ?_⟩
      have t12 : Tr (tor Te Tp) Z H env Fs Z2 H2 e2 Fs2 := t1.trans t2 tor_sub
      cases qk : fk e2 with
      | err => rw [qk] at c; exact c.elim
      | exc x fs e3 =>
        rw [qk] at c
        exact fun cls dd H' Z' Fs' S t r => c cls dd σ H' Z' Fs' S (t12.trans t fun j q => by
          have := tor_sub j q
          have h2 := tor_sub j this.1
          have h3 := tor_sub j h2.2
          exact ⟨by simp [h2.1, h3.1], h3.2⟩) Pin.refl r
      | ok dk e3 =>
        rw [qk] at c
        dsimp only at c
        intro vk H3 Z3 Fs3 Fk S3 t3 rk pk
        obtain ⟨foc3, hd3⟩ := foc.over S2 t3 ht hd
        rw [updE_of' hd3, foc3.at_] at c
        dsimp only at c
        have ry2 : Rep X.K X.mg Z2 H2 y vy Fy := Rep.over S1 py ry t2 (.inr fun i z => by cases z)
        have py2 := py.over (fun a ha => ry.there a ha) t2
        have ry3 : Rep X.K X.mg Z3 H3 y vy Fy := Rep.over S2 py2 ry2 t3 (.inr fun i z => by cases z)
        have py3 := py2.over (fun a ha => ry2.there a ha) t3
        split at c
        · rename_i d2 hset
          split at c
          · rename_i env' hup
            obtain ⟨dn, hup2, rfl⟩ := updE_of hd3 hup
            have t13 : Tr (tor Te (tor Tp Tk)) Z H env Fs Z3 H3 e3 Fs3 := t12.trans t3 fun j q => by
              have h2 := tor_sub j q
              have h3 := tor_sub j h2.2
              exact ⟨by simp [h2.1, h3.1], h3.2⟩
            refine setD_ok (fun a ha => S3.zf i a (foc3.sub.subset ha)) foc3.r1 rk ry3 (foc3.sub.nodup foc3.nd) py.1 (fun a ha z => (py3.2 a ha).1 i (foc3.sub.subset z)) hset fun H' F2 ch r2 n2 s2 => ?_
            obtain ⟨G, S4, t4, _⟩ := mut_done S3 t13 foc3 hd3 hu' py3.2 ch.keep ch.gr r2 n2 s2 hup2
            exact c σ H' Z3 _ S4 t4 Pin.refl
          · exact c.elim
        · exact c.elim
end
/-- the names' slots, from the right -/
def putsE : List Nat → List D → Env → Option Env
  | [], [], env => some env
  | i :: is, d :: ds, env => match putsE is ds env with
    | some e => if e.p[i]? = some true then none else if i < e.s.length then some (e.put i d) else none
    | none => none
  | _, _, _ => none
def parM (is : List Nat) (f : M (List D)) : M Fl := bnd f fun ds env => match putsE is ds env with
  | some e => .ok .nx e
  | none => .err
/-- a, b = d -/
def asgtM (f : M D) (g : D → M Unit) : M Fl := bnd f fun d => if d.own then bad else fun env => match g d env with
  | .ok _ e => .ok .nx e
  | _ => .err
section
variable {X : Cx} {e tg a b c : Expr} {pos px py pz pt pt2 : Pos} {kt k2 : Nat} {f : M D} {fl : M (List D)} {g : D → M Unit} {T Tg : Nat → Bool} {i j k : Nat} {x y z : Str}
theorem vs_asgt (he : VE X e f T none) (hg : VGt X tg g Tg) (hs : swapsWithSole [tg] e pos.line X.env = pure false := by rfl) (hw : swappedStores [tg] e X.env = pure none := by rfl)
    (h1 : (assignEach [tg] X.env).map (·.2) = [assign tg X.env] := by rfl) : VS X (.Assign [tg] e pos) (asgtM f g) (tor T Tg) := by
  refine ⟨fun W tk => ps_imp (ps_asg (he.run W tk) hg.run hs hw h1) fun D0 σ H ⟨Z, env, Fs, S, c⟩ => ⟨Z, env, Fs, S, ?_⟩⟩
  unfold asgtM bnd at c
  cases q : f env with
  | err => rw [q] at c; exact c.elim
  | exc x fs e1 => rw [q] at c; exact fun cls dd H' Z' Fs' S t r => c cls dd σ H' Z' Fs' S (t.mono fun i q => (tor_sub i q).1) Pin.refl r
  | ok d e1 =>
    rw [q] at c
    dsimp only at c
    intro v H1 Z1 Fs1 F1 S1 t1 r1 p1
    by_cases ho : d.own = true
    · rw [if_pos ho] at c; exact c.elim
    · rw [if_neg ho] at c
      have e0 := r1.unown (by simpa using ho)
      subst e0
      cases qg : g d e1 with
      | err => rw [qg] at c; exact c.elim
      | exc x fs e2 => rw [qg] at c; exact c.elim
      | ok u e2 =>
        rw [qg] at c
        refine ⟨Z1, e1, Fs1, d, S1, r1, e2, qg, fun σ3 Fs3 S3 t3 p3 o3 l3 => ?_⟩
        exact c σ3 H1 Z1 Fs3 S3 (t1.trans t3 tor_sub) (by rw [← t1.p]; exact p3)
/-- what a tuple of names gets -/
theorem puts_ok {K : PySem.W.Frag} {mg : Mg} {Z : Addr → Prop} {H : Hp} : ∀ {is : List Nat} {ds : List D} {vs : List V} {F : List Addr} {σ : L2.St} {env env' : Env} {Fs : Nat → List Addr}, SR K mg Z H σ env Fs → Reps K mg Z H ds vs F → F.Nodup → (∀ a ∈ F, (∀ j, a ∉ Fs j) ∧ ¬ Z a) → putsE is ds env = some env' →
    is.length = vs.length ∧ ∃ Fs', SR K mg Z H ((is.zip vs).foldr (fun p s => s.set p.1 (some p.2)) σ) env' Fs' ∧ (∀ j, j ∉ is → env'.s[j]? = env.s[j]? ∧ Fs' j = Fs j) ∧ (∀ j, ∀ a ∈ Fs' j, a ∈ Fs j ∨ a ∈ F) ∧ env'.p = env.p ∧ Pin env.p σ ((is.zip vs).foldr (fun p s => s.set p.1 (some p.2)) σ)
  | [], [], vs, F, σ, env, env', Fs, S, r, nd, ap, h => by
    simp only [putsE, Option.some.injEq] at h
    subst h
    simp only [Reps] at r
    obtain ⟨rfl, rfl⟩ := r
    exact ⟨rfl, Fs, S, fun _ _ => ⟨rfl, rfl⟩, fun _ _ h => .inl h, rfl, Pin.refl⟩
  | [], d :: ds, vs, F, σ, env, env', Fs, S, r, nd, ap, h => by simp [putsE] at h
  | i :: is, [], vs, F, σ, env, env', Fs, S, r, nd, ap, h => by simp [putsE] at h
  | i :: is, d :: ds, vs, F, σ, env, env', Fs, S, r, nd, ap, h => by
    simp only [Reps] at r
    obtain ⟨v, us, F1, F2, rfl, r1, r2, rfl⟩ := r
    rw [List.nodup_append] at nd
    simp only [putsE] at h
    split at h
    · rename_i e1 he
      obtain ⟨hl, Fs1, S1, u1, s1, hp, pn⟩ := puts_ok S r2 nd.2.1 (fun a ha => ap a (List.mem_append_right _ ha)) he
      split at h
      · cases h
      · rename_i hpi
        split at h
        · rename_i hi
          cases h
          have ap1 : ∀ a ∈ F1, (∀ j, a ∉ Fs1 j) ∧ ¬ Z a := fun a ha => ⟨fun j hj => by
            rcases s1 j a hj with z | z
            · exact (ap a (List.mem_append_left _ ha)).1 j z
            · exact nd.2.2 a ha a z rfl, (ap a (List.mem_append_left _ ha)).2⟩
          refine ⟨by simp [hl], fset Fs1 i F1, ?_, fun j hj => ?_, fun j a ha => ?_, hp, ?_⟩
          · simp only [List.zip_cons_cons, List.foldr_cons]
            exact store_ok S1 hi r1 nd.1 ap1
          · have hji : j ≠ i := fun z => hj (by rw [z]; exact List.mem_cons_self)
            obtain ⟨u2, u3⟩ := u1 j fun z => hj (List.mem_cons_of_mem _ z)
            exact ⟨by rw [Env.put, List.getElem?_set_ne (Ne.symm hji)]; exact u2, (fset_ne hji).trans u3⟩
          · by_cases hji : j = i
            · subst hji
              rw [fset_self] at ha
              exact .inr (List.mem_append_left _ ha)
            · rw [fset_ne hji] at ha
              exact (s1 j a ha).imp_right (List.mem_append_right _)
          · simp only [List.zip_cons_cons, List.foldr_cons]
            exact pn.trans (Pin.set (by rw [← hp]; exact hpi))
        · cases h
    · cases h
def inL (is : List Nat) : Nat → Bool := fun j => is.any (fun i => i == j)
theorem inL_not {is : List Nat} {j : Nat} (h : inL is j = false) : j ∉ is := fun z => by
  have : inL is j = true := List.any_eq_true.mpr ⟨j, z, by simp⟩
  rw [h] at this; cases this
/-- a, b = x, y with plain local names -/
theorem par_read {X : Cx} {is : List Nat} {W : WX} {D0 : Ends} {σ : L2.St} {H : Hp} {fl : M (List D)} {T : Nat → Bool} (h : tS X.K X.mg (parM is fl) (tor T (inL is)) W D0 σ H) :
    tA X.K X.mg fl T W σ H fun vs H1 => is.length = vs.length ∧ D0.nx ((is.zip vs).foldr (fun p s => s.set p.1 (some p.2)) σ) H1 := by
  obtain ⟨Z, env, Fs, S, c⟩ := h
  refine ⟨Z, env, Fs, S, ?_⟩
  unfold parM bnd at c
  cases q : fl env with
  | err => rw [q] at c; exact c.elim
  | exc x fs e1 => rw [q] at c; exact fun cls dd H' Z' Fs' S t r => c cls dd σ H' Z' Fs' S (t.mono fun i q => (tor_sub i q).1) Pin.refl r
  | ok ds e1 =>
    rw [q] at c
    dsimp only at c
    intro vs H1 Z1 Fs1 F1 S1 t1 r1 p1
    split at c
    · rename_i e2 he
      obtain ⟨hl, Fs2, S2, u2, s2, hp, pn⟩ := puts_ok S1 r1 p1.1 (fun a ha => ⟨(p1.2 a ha).1, (p1.2 a ha).2.1⟩) he
      refine ⟨hl, c _ H1 Z1 Fs2 S2 ⟨t1.z, t1.zn, t1.keep, t1.gr, fun j a ha => ?_, fun j hj => ?_, hp.trans t1.p⟩ (by rw [← t1.p]; exact pn)⟩
      · rcases s2 j a ha with z | z
        · exact t1.new j a z
        · exact (p1.2 a z).2.2
      · obtain ⟨h1, h2⟩ := tor_sub j hj
        obtain ⟨u3, u4⟩ := u2 j (inL_not h2)
        obtain ⟨w1, w2, w3⟩ := t1.un j h1
        exact ⟨u3.trans w1, u4.trans w2, w3⟩
    · exact c.elim
theorem vs_par2 (hc : X.calm = true) (hN : X.N.Nodup) (hi : X.N[i]? = some x) (hj : X.N[j]? = some y) (hij : i ≠ j) (hx : X.env.scope.names.lookup x = some .local) (hy : X.env.scope.names.lookup y = some .local) (ha : VA X [a, b] fl T)
    (hw : swappedStores [.Tuple [.Name x px, .Name y py] kt pt] (.Tuple [a, b] k2 pt2) X.env = pure (some [x, y])) (hs : swapsWithSole [.Tuple [.Name x px, .Name y py] kt pt] (.Tuple [a, b] k2 pt2) pos.line X.env = pure false := by rfl) :
    VS X (.Assign [.Tuple [.Name x px, .Name y py] kt pt] (.Tuple [a, b] k2 pt2) pos) (parM [i, j] fl) (tor T (inL [i, j])) := by
  refine ⟨fun W tk => ps_imp (ps_par hc hN hi hj hij hx hy (ha.run W tk) hw hs) fun D0 σ H h => ?_⟩
  obtain ⟨Z, env, Fs, S, c⟩ := par_read h
  refine ⟨Z, env, Fs, S, ?_⟩
  cases q : fl env with
  | err => rw [q] at c; exact c
  | exc x fs e1 => rw [q] at c; exact c
  | ok ds e1 =>
    rw [q] at c
    intro vs H1 Z1 Fs1 F1 S1 t1 r1 p1
    obtain ⟨hl, k⟩ := c vs H1 Z1 Fs1 F1 S1 t1 r1 p1
    match vs, hl, k with
    | [v, w], _, k =>
      refine ⟨v, w, rfl, ?_⟩
      rw [List.set_comm _ _ hij]
      exact k
/-- three at once -/
theorem ps_par3 {i j k : Nat} {x y z : Str} {a b c : Expr} {ta : TA} {px py pz pt : Pos} {kt k2 pt2} (hc : X.calm = true) (hN : X.N.Nodup) (hi : X.N[i]? = some x) (hj : X.N[j]? = some y) (hk : X.N[k]? = some z)
    (hx : X.env.scope.names.lookup x = some .local) (hy : X.env.scope.names.lookup y = some .local) (hz : X.env.scope.names.lookup z = some .local) (ha : PA X [a, b, c] ta)
    (hw : swappedStores [.Tuple [.Name x px, .Name y py, .Name z pz] kt pt] (.Tuple [a, b, c] k2 pt2) X.env = pure (some [x, y, z]))
    (hs : swapsWithSole [.Tuple [.Name x px, .Name y py, .Name z pz] kt pt] (.Tuple [a, b, c] k2 pt2) pos.line X.env = pure false := by rfl) :
    PS X (.Assign [.Tuple [.Name x px, .Name y py, .Name z pz] kt pt] (.Tuple [a, b, c] k2 pt2) pos) (fun D σ H => ta σ H fun vs H1 => ∃ u v w, vs = [u, v, w] ∧ D.nx (((σ.set k (some w)).set j (some v)).set i (some u)) H1) := by
  refine ⟨fun pins s σ H D I h => ?_⟩
  rw [exec_Assign_arm]
  refine wpAny_bind (wpAny_standAt ?_)
  rw [hs]
  refine wpAny_bind (wpAny_pure ?_)
  rw [if_neg (by decide)]
  refine wpAny_bind (PyProof.Rows.Tuple_ (thn (ha.run _ pins s σ H _ I h) fun us s1 ⟨vs, H1, I1, r1, q1⟩ => ?_))
  obtain ⟨v, w, w2, e1, q1⟩ := q1
  subst e1
  obtain ⟨u1, u2, u3, rfl, rv, rw', rx⟩ : ∃ u1 u2 u3, us = [u1, u2, u3] ∧ RelV v u1 ∧ RelV w u2 ∧ RelV w2 u3 := by
    cases r1 with
    | cons p q =>
      cases q with
      | cons p' q' =>
        cases q' with
        | cons p2 q2 =>
          cases q2
          exact ⟨_, _, _, rfl, p, p', p2⟩
  refine wpAny_newObj_type ?_ (by show 3 ≤ sizeLine; decide)
  have I2 : L2.Inv X pins σ H1 { s1 with heap := s1.heap.push { cls := .type "tuple", data := .seq [u1, u2, u3].toArray } } := I1.kept (t' := s1.toks) fun b o e => Heap.get?_push_of_some _ e
  rw [hw]
  refine wpAny_bind (wpAny_pure ?_)
  show wpAny (model X.prog X.w) X.A (do rule "assign.swapped-stores"; let items ← unpackItems (.ref s1.heap.objs.size) 3 none; assignInOrder [fun v => bindName X.env z v, fun v => bindName X.env y v, fun v => bindName X.env x v] items.reverse; pure Flow.next) _ _ _
  refine wpAny_bind (wpAny_rule (wpAny_bind (PyProof.Rows.unpackItems_tuple (items := #[u1, u2, u3]) (I.ok.hd hc) (PyProof.Rows.IsTup.new s1.heap _) fun h' hx' => ?_)))
  have I3 := I2.kept (h' := h') (t' := s1.toks) fun b o e => hx' b o (Nat.ne_of_lt (Heap.lt_size e)) e
  show wpAny _ _ (assignInOrder [fun v => bindName X.env z v, fun v => bindName X.env y v, fun v => bindName X.env x v] [u3, u2, u1] >>= fun _ => pure Flow.next) _ _ _
  refine wpAny_bind (PyProof.Rows.assignInOrder_cons (wpAny_bindName (L2.store_ok I3 hN hk (.inl hz) rx (fun s2 I4 => ?_) (.inr hz))))
  refine PyProof.Rows.assignInOrder_cons (wpAny_bindName (L2.store_ok I4 hN hj (.inl hy) rw' (fun s3 I5 => ?_) (.inr hy)))
  exact PyProof.Rows.assignInOrder_cons (wpAny_bindName (L2.store_ok I5 hN hi (.inl hx) rv (fun s4 I6 => PyProof.Rows.assignInOrder_nil (wpAny_pure ⟨_, H1, I6, q1⟩)) (.inr hx)))
theorem vs_par3 (hc : X.calm = true) (hN : X.N.Nodup) (hi : X.N[i]? = some x) (hj : X.N[j]? = some y) (hk : X.N[k]? = some z) (hx : X.env.scope.names.lookup x = some .local) (hy : X.env.scope.names.lookup y = some .local) (hz : X.env.scope.names.lookup z = some .local) (ha : VA X [a, b, c] fl T)
    (hw : swappedStores [.Tuple [.Name x px, .Name y py, .Name z pz] kt pt] (.Tuple [a, b, c] k2 pt2) X.env = pure (some [x, y, z]))
    (hs : swapsWithSole [.Tuple [.Name x px, .Name y py, .Name z pz] kt pt] (.Tuple [a, b, c] k2 pt2) pos.line X.env = pure false := by rfl) :
    VS X (.Assign [.Tuple [.Name x px, .Name y py, .Name z pz] kt pt] (.Tuple [a, b, c] k2 pt2) pos) (parM [i, j, k] fl) (tor T (inL [i, j, k])) := by
  refine ⟨fun W tk => ps_imp (ps_par3 hc hN hi hj hk hx hy hz (ha.run W tk) hw hs) fun D0 σ H h => ?_⟩
  obtain ⟨Z, env, Fs, S, c⟩ := par_read h
  refine ⟨Z, env, Fs, S, ?_⟩
  cases q : fl env with
  | err => rw [q] at c; exact c
  | exc x fs e1 => rw [q] at c; exact c
  | ok ds e1 =>
    rw [q] at c
    intro vs H1 Z1 Fs1 F1 S1 t1 r1 p1
    obtain ⟨hl, k⟩ := c vs H1 Z1 Fs1 F1 S1 t1 r1 p1
    match vs, hl, k with
    | [v, w, w2], _, k => exact ⟨v, w, w2, rfl, k⟩
end
/-! ### dicts written out -/
def dispM (ks : List Str) (f : M (List D)) : M D := bnd f fun ds => if ds.length = ks.length then pur (.dct true ((ks.map D.str).zip ds)) else bad
structure VDp (X : Cx) (pos : Pos) (keys : List (Option Expr)) (values : List Expr) (ks : List Str) (f : M (List D)) (T : Nat → Bool) : Prop where
  run : ∀ W, Takes X W → ∃ trs, PPs X pos keys values trs ∧ ∀ σ H (Q : List (V × V) → Hp → Prop), tA X.K X.mg f T W σ H (fun vs H' => ∀ l, l = (ks.map V.str).zip vs → Q l H') → tPairs trs σ H Q
section
variable {X : Cx} {pos p : Pos} {keys : List (Option Expr)} {values : List Expr} {ks : List Str} {f : M (List D)} {g : M D} {T Tv : Nat → Bool} {v : Expr} {k : Str} {j : Nat}
theorem vd_nil : VDp X pos [] [] [] (pur []) T0 := ⟨fun W tk => ⟨[], pps_nil, fun σ H Q ⟨Z, env, Fs, S, c⟩ => c [] H Z Fs [] S Tr.refl Reps.nil VP.nil [] rfl⟩⟩
/-- the values in a row -/
theorem cons_read {K : PySem.W.Frag} {mg : Mg} {W : WX} {σ : L2.St} {H : Hp} {Q : List V → Hp → Prop} (h : tA K mg (consM g f) (tor Tv T) W σ H Q) : tE K mg g Tv none W σ H fun x H1 => tA K mg f T W σ H1 fun xs H2 => Q (x :: xs) H2 := by
  obtain ⟨Z, env, Fs, S, c⟩ := h
  refine ⟨Z, env, Fs, S, ?_⟩
  unfold consM bnd at c
  cases q : g env with
  | err => rw [q] at c; exact c.elim
  | exc x fs e1 =>
    rw [q] at c
    exact fun cls dd H' Z' Fs' S' t r => c cls dd H' Z' Fs' S' (t.mono fun i q => (tor_sub i q).1) r
  | ok d e1 =>
    rw [q] at c
    simp only at c
    intro v H1 Z1 Fs1 F1 S1 t1 r1 p1
    refine ⟨Z1, e1, Fs1, S1, ?_⟩
    cases q2 : f e1 with
    | err => rw [q2] at c; exact c.elim
    | exc x fs e2 => rw [q2] at c; exact ContL.step c t1 tor_sub
    | ok ds e2 =>
      rw [q2] at c
      have c0 : ContL K mg (tor Tv T) W Q σ Z H env Fs (.ok (d :: ds) e2) := c
      intro vs H2 Z2 Fs2 F2 S2 t2 r2 p2
      have r1' := Rep.over S1 p1 r1 t2 (.inr fun i z => by cases z)
      have p1' := p1.over (fun a ha => r1.there a ha) t2
      have p2' := p2.back t1
      refine c0 (v :: vs) H2 Z2 Fs2 (F1 ++ F2) S2 (t1.trans t2 tor_sub) (Reps.cons r1' r2) ⟨List.nodup_append.mpr ⟨p1.1, p2.1, fun x hx y hy z => ?_⟩, fun x hx => (List.mem_append.mp hx).elim (p1'.2 x) (p2'.2 x)⟩
      subst z
      rcases (p2.2 x hy).2.2 with ⟨j, z⟩ | z
      · exact (p1.2 x hx).1 j z
      · obtain ⟨o, e⟩ := r1.there x hx
        rw [z] at e; cases e
theorem vd_cons (hv : VE X v g Tv none) (hr : VDp X pos keys values ks f T) : VDp X pos (some (.Constant (.str k) j p) :: keys) (v :: values) (k :: ks) (consM g f) (tor Tv T) := by
  refine ⟨fun W tk => ?_⟩
  obtain ⟨trs, h1, h2⟩ := hr.run W tk
  refine ⟨_, pps_cons pe_str (hv.run W tk) h1, fun σ H Q h => ?_⟩
  obtain ⟨Z, env, Fs, S, c⟩ := cons_read h
  refine ⟨Z, env, Fs, S, ?_⟩
  cases q : g env with
  | err => rw [q] at c; exact c
  | exc x fs e1 => rw [q] at c; exact c
  | ok d e1 =>
    rw [q] at c
    intro v H1 Z1 Fs1 F1 S1 t1 r1 p1
    refine h2 σ H1 _ ?_
    obtain ⟨Z2, env2, Fs2, S2, c2⟩ := c v H1 Z1 Fs1 F1 S1 t1 r1 p1
    refine ⟨Z2, env2, Fs2, S2, ?_⟩
    cases q2 : f env2 with
    | err => rw [q2] at c2; exact c2
    | exc x fs e1 => rw [q2] at c2; exact c2
    | ok ds e2 =>
      rw [q2] at c2
      intro vs H3 Z3 Fs3 F3 S3 t3 r3 p3 l hl
      exact c2 vs H3 Z3 Fs3 F3 S3 t3 r3 p3 _ (by rw [hl]; rfl)
theorem putK_snoc {kvs : List (Key × V)} {k : Key} {v : V} (h : ∀ p ∈ kvs, p.1 ≠ k) : putK kvs k v = kvs ++ [(k, v)] := by
  refine putK_new v ?_
  unfold valV
  rw [List.find?_eq_none.mpr fun p hp => by simpa using h p hp]
  rfl
theorem mergeK_nodup : ∀ (more acc : List (Key × V)), ((acc ++ more).map (·.1)).Nodup → mergeK acc more = acc ++ more
  | [], acc, _ => by simp [mergeK]
  | p :: r, acc, h => by
    have h' : (((acc ++ [p]) ++ r).map (·.1)).Nodup := by simpa using h
    have e : putK acc p.1 p.2 = acc ++ [p] := putK_snoc fun q hq e => by
      rw [List.map_append, List.nodup_append] at h
      exact h.2.2 _ (List.mem_map_of_mem hq) _ (List.mem_map_of_mem List.mem_cons_self) e
    have := mergeK_nodup r (acc ++ [p]) h'
    unfold mergeK at this ⊢
    rw [List.foldl_cons, e, this]
    simp
theorem keysD_str : ∀ (ks : List Str) (ds : List D), ds.length = ks.length → keysD ((ks.map D.str).zip ds) = some (ks.map Sum.inr)
  | [], [], _ => rfl
  | k :: ks, d :: ds, h => by
    simp only [List.map_cons, List.zip_cons_cons, keysD, keyD, keysD_str ks ds (by simpa using h)]
  | [], _ :: _, h => by simp at h
  | _ :: _, [], h => by simp at h
theorem repk_zip {K : PySem.W.Frag} {mg : Mg} {Z : Addr → Prop} {H : Hp} : ∀ (ks : List D) {ds : List D} {vs : List V} {F : List Addr}, Reps K mg Z H ds vs F → ds.length = ks.length → Repk K mg Z H (ks.zip ds) vs F
  | [], [], vs, F, r, _ => by simpa only [Reps, List.zip_nil_left, Repk] using r
  | k :: ks, d :: ds, vs, F, r, h => by
    simp only [Reps] at r
    obtain ⟨v, us, F1, F2, rfl, r1, r2, rfl⟩ := r
    simp only [List.zip_cons_cons, Repk]
    exact ⟨v, us, F1, F2, rfl, r1, repk_zip ks r2 (by simpa using h), rfl⟩
  | [], _ :: _, _, _, _, h => by simp at h
  | _ :: _, [], _, _, _, h => by simp at h
theorem zip_kv : ∀ (ks : List Str) (vs : List V), (ks.map V.str).zip vs = ((ks.map (Sum.inr : Str → Key)).zip vs).map fun kv => (kV kv.1, kv.2)
  | [], _ => by simp
  | _ :: _, [] => by simp
  | k :: ks, v :: vs => by
    simp only [List.map_cons, List.zip_cons_cons, zip_kv ks vs]
    rfl
theorem ve_disp (h : VDp X pos keys values ks f T) (hks : ks.Nodup) (hall : keys.all (·.isSome) = true) (hl : keys.length = values.length) (h0 : keys ≠ []) (h15 : keys.length ≤ 15) (hk15 : ks.length ≤ 15) : VE X (.Dict keys values pos) (dispM ks f) T none := by
  refine ⟨fun W tk => ?_⟩
  obtain ⟨trs, h1, h2⟩ := h.run W tk
  refine pe_imp (pe_disp h1 hall hl h0 h15) fun σ H Q ⟨Z, env, Fs, S, c⟩ p hp => h2 σ _ _ ?_
  have al : Alloc Z H Z (upd H p (.dK [])) [p] := Alloc.own hp S.zs
  have S0 := S.alloc al
  have t0 : Tr T0 Z H env Fs Z (upd H p (.dK [])) env Fs := Tr.alloc S al
  have pF : ∀ j, p ∉ Fs j := fun j z => by
    obtain ⟨o, e⟩ := S.tr z
    rw [hp] at e; cases e
  refine ⟨Z, env, Fs, S0, ?_⟩
  unfold dispM bnd at c
  cases q : f env with
  | err => rw [q] at c; exact c.elim
  | exc x fs e1 => rw [q] at c; exact fun cls dd H' Z' Fs' S' t r => c cls dd H' Z' Fs' S' (t0.trans t fun i q => ⟨rfl, q⟩) r
  | ok ds e1 =>
    rw [q] at c
    dsimp only at c
    intro vs H2 Z2 Fs2 Fv S2 t2 r2 p2 l el
    split at c
    · rename_i hlen
      have hD : H2 p = some (.dK []) := t2.keep p _ upd_same pF
      have pF2 : ∀ j, p ∉ Fs2 j := fun j z => by
        rcases t2.new j p z with ⟨k, z⟩ | z
        · exact pF k z
        · rw [upd_same] at z; cases z
      have pZ2 : ¬ Z2 p := fun z => by
        rcases t2.zn p z with z | ⟨k, z⟩ | z
        · exact (al.fd p (by simp)).2 z
        · exact pF k z
        · rw [upd_same] at z; cases z
      have pFv : p ∉ Fv := fun z => by
        rcases (p2.2 p z).2.2 with ⟨k, z⟩ | z
        · exact pF k z
        · rw [upd_same] at z; cases z
      have lv := r2.length
      refine ⟨hD, (ks.map Sum.inr).zip vs, ?_, by rw [List.length_zip]; simp; omega, ?_⟩
      · rw [el]
        exact zip_kv ks vs
      · have em : mergeK [] ((ks.map Sum.inr).zip vs) = (ks.map Sum.inr).zip vs := by
          rw [mergeK_nodup _ _ ?_]
          · simp
          · rw [List.nil_append, List.map_fst_zip (by simp; omega)]
            exact List.Pairwise.map _ (fun a b h e => h (by injection e)) hks
        rw [em]
        have t3 : Tr T Z H env Fs Z2 H2 e1 Fs2 := t0.trans t2 fun i q => ⟨rfl, q⟩
        have st : Stay Z2 Z2 H2 (upd H2 p (.dK ((ks.map Sum.inr).zip vs))) := ⟨fun _ h => h, fun a ha => upd_ne (fun e => by subst e; exact pZ2 ha)⟩
        refine c (.ref p) _ Z2 Fs2 (p :: Fv) (S2.fore pF2 pZ2) (Tr.fore t3 hp pF) ?_ ⟨List.nodup_cons.mpr ⟨pFv, p2.1⟩, fun a ha => ?_⟩
        · simp only [Rep]
          refine ⟨p, ks.map Sum.inr, vs, Fv, rfl, upd_same, ⟨keysD_str ks ds hlen, List.Pairwise.map _ (fun a b h e => h (by injection e)) hks⟩, ?_, rfl⟩
          exact Repk.stay st (repk_zip (ks.map D.str) r2 (by simpa using hlen)) fun a ha => upd_ne fun e => by subst e; exact pFv ha
        · rcases List.mem_cons.mp ha with rfl | ha
          · exact ⟨pF2, pZ2, .inr hp⟩
          · refine ⟨(p2.2 a ha).1, (p2.2 a ha).2.1, ?_⟩
            rcases (p2.2 a ha).2.2 with z | z
            · exact .inl z
            · refine .inr ?_
              by_cases e : a = p
              · rw [e]; exact hp
              · rw [upd_ne e] at z; exact z
    · exact c.elim
end
end VI
/-! V18: calls of what is built in; places; slices; join; isinstance -/
namespace VI
open PySem PySem.Spec L2

theorem Call1D.or {X : Cx} {f : Value} {g g1 g2 : D → Option D} (h1 : Call1D X f g1) (h2 : Call1D X f g2) (h : ∀ a d, g a = some d → g1 a = some d ∨ g2 a = some d) : Call1D X f g := by
  obtain ⟨r1, o1, q1⟩ := h1
  obtain ⟨r2, o2, q2⟩ := h2
  refine ⟨_, CallR.or o1 o2, fun {Z H d1 d v1 F1 Q} zs ra e res => ?_⟩
  rcases h _ _ e with e | e
  · exact .inl (q1 zs ra e res)
  · exact .inr (q2 zs ra e res)
def lenA : D → Option D
  | .lst _ xs => some (.int xs.length)
  | .tup xs => some (.int xs.length)
  | .str z => if z.length ≤ 16777216 then some (.int z.length) else none
  | _ => none
def lenB : D → Option D
  | .dct _ kvs => some (.int kvs.length)
  | _ => none
def lenD : D → Option D
  | .lst _ xs => some (.int xs.length)
  | .tup xs => some (.int xs.length)
  | .str z => if z.length ≤ 16777216 then some (.int z.length) else none
  | .dct _ kvs => some (.int kvs.length)
  | _ => none
def listD : D → Option D
  | .lst _ xs => if D.owns xs then none else some (.lst true xs)
  | .tup xs => if D.owns xs then none else some (.lst true xs)
  | _ => none
def tupleD : D → Option D
  | .lst _ xs => if D.owns xs then none else some (.tup xs)
  | .tup xs => if D.owns xs then none else some (.tup xs)
  | _ => none
def blsD : List D → Option (List Bool)
  | [] => some []
  | .bl b :: xs => (blsD xs).map (b :: ·)
  | _ => none
def intsD : List D → Option (List Int)
  | [] => some []
  | .int b :: xs => (intsD xs).map (b :: ·)
  | _ => none
def strsD : List D → Option (List Str)
  | [] => some []
  | .str b :: xs => (strsD xs).map (b :: ·)
  | _ => none
def allD : D → Option D
  | .lst _ xs => (blsD xs).map fun bs => .bl (bs.all id)
  | _ => none
def anyD : D → Option D
  | .lst _ xs => (blsD xs).map fun bs => .bl (bs.any id)
  | _ => none
def sumD : D → Option D
  | .lst _ xs => (intsD xs).map fun ns => .int ns.sum
  | _ => none
def reprI : D → Option D
  | .int i => if i.natAbs.log2 < 1920 then some (.str (toString i)) else none
  | _ => none
def joinD (a : Str) : D → Option D
  | .lst _ xs => (strsD xs).bind fun ys => if (ys.map (·.length)).sum + ys.length * a.length ≤ 16777216 then some (.str (Txt.join a ys)) else none
  | .tup xs => (strsD xs).bind fun ys => if (ys.map (·.length)).sum + ys.length * a.length ≤ 16777216 then some (.str (Txt.join a ys)) else none
  | _ => none
def ixD : D → D → Option D
  | .lst _ xs, .int i => (atI xs i).bind fun d => if d.own then none else some d
  | .tup xs, .int i => (atI xs i).bind fun d => if d.own then none else some d
  | .str z, .int i => if z.length ≤ 16777216 then (atI z.cps.toList i).map fun c => .str ⟨#[c]⟩ else none
  | _, _ => none
section
variable {K : PySem.W.Frag} {mg : Mg} {Z : Addr → Prop} {H : Hp}
theorem bls_rep : ∀ {xs : List D} {bs : List Bool} {vs : List V} {F : List Addr}, Reps K mg Z H xs vs F → blsD xs = some bs → vs = bs.map V.bl
  | [], bs, vs, F, r, h => by
    simp only [blsD, Option.some.injEq, Reps] at h r
    rw [r.1, ← h]; rfl
  | x :: xs, bs, vs, F, r, h => by
    simp only [Reps] at r
    obtain ⟨v, us, F1, F2, rfl, r1, r2, rfl⟩ := r
    cases x <;> simp only [blsD] at h <;> first | cases h | skip
    rename_i b
    cases e : blsD xs with
    | none => rw [e] at h; cases h
    | some cs =>
      rw [e] at h
      cases h
      simp only [Rep] at r1
      rw [r1.1, bls_rep r2 e]; rfl
theorem ints_rep : ∀ {xs : List D} {bs : List Int} {vs : List V} {F : List Addr}, Reps K mg Z H xs vs F → intsD xs = some bs → vs = bs.map V.int
  | [], bs, vs, F, r, h => by
    simp only [intsD, Option.some.injEq, Reps] at h r
    rw [r.1, ← h]; rfl
  | x :: xs, bs, vs, F, r, h => by
    simp only [Reps] at r
    obtain ⟨v, us, F1, F2, rfl, r1, r2, rfl⟩ := r
    cases x <;> simp only [intsD] at h <;> first | cases h | skip
    rename_i b
    cases e : intsD xs with
    | none => rw [e] at h; cases h
    | some cs =>
      rw [e] at h
      cases h
      simp only [Rep] at r1
      rw [r1.1, ints_rep r2 e]; rfl
theorem strs_rep : ∀ {xs : List D} {bs : List Str} {vs : List V} {F : List Addr}, Reps K mg Z H xs vs F → strsD xs = some bs → vs = bs.map V.str
  | [], bs, vs, F, r, h => by
    simp only [strsD, Option.some.injEq, Reps] at h r
    rw [r.1, ← h]; rfl
  | x :: xs, bs, vs, F, r, h => by
    simp only [Reps] at r
    obtain ⟨v, us, F1, F2, rfl, r1, r2, rfl⟩ := r
    cases x <;> simp only [strsD] at h <;> first | cases h | skip
    rename_i b
    cases e : strsD xs with
    | none => rw [e] at h; cases h
    | some cs =>
      rw [e] at h
      cases h
      simp only [Rep] at r1
      rw [r1.1, strs_rep r2 e]; rfl
theorem atI_rep {xs : List D} {vs : List V} {F : List Addr} {i : Int} {d : D} (r : Reps K mg Z H xs vs F) (h : atI xs i = some d) (ho : d.own = false) : ∃ v, atI vs i = some v ∧ Rep K mg Z H d v [] := by
  unfold atI at h ⊢
  rw [r.length]
  cases e : ixN xs.length i with
  | none => rw [e] at h; cases h
  | some j =>
    rw [e] at h
    obtain ⟨v, G, h1, h2, _⟩ := r.get (show xs[j]? = some d from h)
    have := h2.unown ho
    subst this
    exact ⟨v, h1, h2⟩
end
section
variable {X : Cx}
theorem c1_lenA : Call1D X (.builtin "len") lenA := by
  refine ⟨_, call_len, fun {Z H d1 d v1 F1 Q} zs ra e res => ?_⟩
  unfold lenA at e
  split at e
  · cases e
    obtain ⟨a, vs, G, rfl, s, r⟩ := lst_sq ra
    refine ⟨_, _, rfl, .inl ⟨vs, s, rfl⟩, ?_⟩
    rw [r.length]
    exact res_flat zs res (by simp [Rep])
  · cases e
    obtain ⟨a, vs, rfl, s, r⟩ := tup_read ra
    refine ⟨_, _, rfl, .inr ⟨vs, s, rfl⟩, ?_⟩
    rw [r.length]
    exact res_flat zs res (by simp [Rep])
  · split at e
    · rename_i hl
      cases e
      simp only [Rep] at ra
      rw [ra.1]
      exact ⟨_, _, rfl, ⟨by rw [sizeLine_eq]; exact hl, rfl⟩, res_flat zs res (by simp [Rep])⟩
    · cases e
  · cases e
theorem c1_lenB : Call1D X (.builtin "len") lenB := by
  refine ⟨_, call_lenD, fun {Z H d1 d v1 F1 Q} zs ra e res => ?_⟩
  unfold lenB at e
  split at e
  · rename_i o kvs
    cases e
    cases o with
    | true =>
      simp only [Rep] at ra
      obtain ⟨a, ks, vs, G, rfl, t, hk, rs, _⟩ := ra
      obtain ⟨l1, l2⟩ := Repk.length rs hk.1
      refine ⟨a, _, rfl, t, ?_⟩
      rw [List.length_zip, l1, l2, Nat.min_self]
      exact res_flat zs res (by simp [Rep])
    | false =>
      simp only [Rep] at ra
      obtain ⟨a, ks, vs, rfl, t, _, hk, rs, _⟩ := ra
      obtain ⟨l1, l2⟩ := Repk.length rs hk.1
      refine ⟨a, _, rfl, t, ?_⟩
      rw [List.length_zip, l1, l2, Nat.min_self]
      exact res_flat zs res (by simp [Rep])
  · cases e
theorem c1_len : Call1D X (.builtin "len") lenD := Call1D.or c1_lenA c1_lenB fun a d e => by
  unfold lenD at e
  split at e
  · exact .inl e
  · exact .inl e
  · exact .inl e
  · exact .inr e
  · cases e
theorem c1_list : Call1D X (.type "list") listD := by
  refine ⟨_, call_list_of, fun {Z H d1 d v1 F1 Q} zs ra e res => ?_⟩
  have fin : ∀ {xs : List D} {vs : List V} {G : List Addr}, Reps X.K X.mg Z H xs vs G → D.owns xs = false → (D.lst true xs = d) → ∀ l, H l = none → Q (.ref l) (upd H l (.lst vs)) := fun {xs vs G} r ho ed l hl => by
    have e1 := r.unown ho
    subst e1 ed
    have al : Alloc Z H Z (upd H l (.lst vs)) [l] := Alloc.own hl zs
    refine res _ _ Z [l] al ?_
    simp only [Rep]
    exact ⟨l, _, [], rfl, upd_same, Reps.stay (al.stay zs) r (fun _ h => by simp at h), rfl⟩
  unfold listD at e
  split at e
  · split at e
    · cases e
    · rename_i ho
      cases e
      obtain ⟨a, vs, G, rfl, s, r⟩ := lst_sq ra
      exact ⟨a, vs, rfl, .inl s, fin r (by simpa using ho) rfl⟩
  · split at e
    · cases e
    · rename_i ho
      cases e
      obtain ⟨a, vs, rfl, s, r⟩ := tup_read ra
      exact ⟨a, vs, rfl, .inr s, fin r (by simpa using ho) rfl⟩
  · cases e
theorem c1_tuple : Call1D X (.type "tuple") tupleD := by
  refine ⟨_, call_tuple_of, fun {Z H d1 d v1 F1 Q} zs ra e res => ?_⟩
  unfold tupleD at e
  split at e
  · split at e
    · cases e
    · rename_i ho
      cases e
      obtain ⟨a, vs, G, rfl, s, r⟩ := lst_sq ra
      have e1 := r.unown (by simpa using ho)
      subst e1
      refine ⟨a, vs, rfl, .inl ⟨s, fun l hl => ?_⟩⟩
      have al : Alloc Z H (fun a => Z a ∨ a = l) (upd H l (.tup vs)) [] := Alloc.tup hl
      refine res _ _ _ [] al ?_
      simp only [Rep]
      exact ⟨l, _, rfl, .inl ⟨.inr rfl, .inl upd_same⟩, Reps.stay (al.stay zs) r (fun _ h => by simp at h)⟩
  · split at e
    · cases e
    · rename_i ho
      cases e
      have ra' := ra
      obtain ⟨a, vs, rfl, s, r⟩ := tup_read ra
      have e1 := r.unown (by simpa using ho)
      subst e1
      exact ⟨a, vs, rfl, .inr ⟨s, res_flat zs res ra'⟩⟩
  · cases e
theorem c1_all (hc : X.calm = true) : Call1D X (.builtin "all") allD := by
  refine ⟨_, cr_all hc, fun {Z H d1 d v1 F1 Q} zs ra e res => ?_⟩
  unfold allD at e
  split at e
  · rename_i o xs
    cases eb : blsD xs with
    | none => rw [eb] at e; cases e
    | some bs =>
      rw [eb] at e
      cases e
      obtain ⟨a, vs, G, rfl, s, r⟩ := lst_sq ra
      rw [bls_rep r eb] at s
      exact ⟨a, bs, rfl, s, res_flat zs res (by simp [Rep])⟩
  · cases e
theorem c1_any (hc : X.calm = true) : Call1D X (.builtin "any") anyD := by
  refine ⟨_, cr_any hc, fun {Z H d1 d v1 F1 Q} zs ra e res => ?_⟩
  unfold anyD at e
  split at e
  · rename_i o xs
    cases eb : blsD xs with
    | none => rw [eb] at e; cases e
    | some bs =>
      rw [eb] at e
      cases e
      obtain ⟨a, vs, G, rfl, s, r⟩ := lst_sq ra
      rw [bls_rep r eb] at s
      exact ⟨a, bs, rfl, s, res_flat zs res (by simp [Rep])⟩
  · cases e
theorem c1_sum (hc : X.calm = true) : Call1D X (.builtin "sum") sumD := by
  refine ⟨_, cr_sum hc, fun {Z H d1 d v1 F1 Q} zs ra e res => ?_⟩
  unfold sumD at e
  split at e
  · rename_i o xs
    cases eb : intsD xs with
    | none => rw [eb] at e; cases e
    | some bs =>
      rw [eb] at e
      cases e
      obtain ⟨a, vs, G, rfl, s, r⟩ := lst_sq ra
      rw [ints_rep r eb] at s
      exact ⟨a, bs, rfl, s, res_flat zs res (by simp [Rep])⟩
  · cases e
theorem c1_reprI : Call1D X (.builtin "repr") reprI := by
  refine ⟨_, SkE.call_repr_int, fun {Z H d1 d v1 F1 Q} zs ra e res => ?_⟩
  unfold reprI at e
  split at e
  · split at e
    · rename_i hl
      cases e
      simp only [Rep] at ra
      rw [ra.1]
      exact ⟨_, rfl, hl, res_flat zs res (by simp [Rep])⟩
    · cases e
  · cases e
theorem xd_seq : IxD X ixD := by
  refine ⟨_, ix_seq, fun {Z H d1 d2 d v1 v2 F1 F2 Q} zs ra rb e res => ?_⟩
  unfold ixD at e
  split at e
  · rename_i o xs i
    cases ea : atI xs i with
    | none => rw [ea] at e; cases e
    | some x =>
      rw [ea] at e
      simp only [Option.bind_some] at e
      split at e
      · cases e
      · rename_i ho
        cases e
        obtain ⟨a, vs, G, rfl, s, r⟩ := lst_sq ra
        simp only [Rep] at rb
        obtain ⟨v, h1, h2⟩ := atI_rep r ea (by simpa using ho)
        exact .inl ⟨a, vs, i, v, rfl, rb.1, s, h1, res_flat zs res h2⟩
  · rename_i xs i
    cases ea : atI xs i with
    | none => rw [ea] at e; cases e
    | some x =>
      rw [ea] at e
      simp only [Option.bind_some] at e
      split at e
      · cases e
      · rename_i ho
        cases e
        obtain ⟨a, vs, rfl, s, r⟩ := tup_read ra
        simp only [Rep] at rb
        obtain ⟨v, h1, h2⟩ := atI_rep r ea (by simpa using ho)
        exact .inr (.inl ⟨a, vs, i, v, rfl, rb.1, s, h1, res_flat zs res h2⟩)
  · rename_i z i
    split at e
    · rename_i hl
      cases ea : atI z.cps.toList i with
      | none => rw [ea] at e; cases e
      | some c =>
        rw [ea] at e
        cases e
        simp only [Rep] at ra rb
        exact .inr (.inr ⟨z, i, c, ra.1, rb.1, by rw [sizeLine_eq]; exact hl, ea, res_flat zs res (by simp [Rep])⟩)
    · cases e
  · cases e
end

/-! ### join -/
def joinM (fo fe : M D) : M D := bnd fo fun d => match d with
  | .str a => bnd fe fun d2 => ofO (joinD a d2)
  | _ => bad
section
variable {X : Cx} {o e : Expr} {pos apos : Pos} {fo fe : M D} {To Te : Nat → Bool} {so se : Option Nat}
theorem joinD_ok {K : PySem.W.Frag} {mg : Mg} {Z : Addr → Prop} {H : Hp} {a : Str} {d2 d : D} {v2 : V} {F2 : List Addr} (r : Rep K mg Z H d2 v2 F2) (h : joinD a d2 = some d) :
    ∃ p, ∃ ys : List Str, v2 = .ref p ∧ (SqL K H p (ys.map V.str) ∨ SqT K H p (ys.map V.str)) ∧ (ys.map (·.length)).sum + ys.length * a.length ≤ 16777216 ∧ d = .str (Txt.join a ys) := by
  unfold joinD at h
  split at h
  · rename_i o xs
    cases es : strsD xs with
    | none => rw [es] at h; cases h
    | some ys =>
      rw [es] at h
      simp only [Option.bind_some] at h
      split at h
      · rename_i hl
        cases h
        obtain ⟨p, vs, G, rfl, s, r⟩ := lst_sq r
        rw [strs_rep r es] at s
        exact ⟨p, ys, rfl, .inl s, hl, rfl⟩
      · cases h
  · rename_i xs
    cases es : strsD xs with
    | none => rw [es] at h; cases h
    | some ys =>
      rw [es] at h
      simp only [Option.bind_some] at h
      split at h
      · rename_i hl
        cases h
        obtain ⟨p, vs, rfl, s, r⟩ := tup_read r
        rw [strs_rep r es] at s
        exact ⟨p, ys, rfl, .inr s, hl, rfl⟩
      · cases h
  · cases h
theorem ve_join (ho : VE X o fo To so) (he : VE X e fe Te se) (hs : starEach [e] X.env = [(false, eval e X.env)] := by rfl) (hbase : attributeBase o "join" X.env (eval o X.env) = eval o X.env := by rfl) (hline : (apos.endLine == pos.line) = true := by rfl) :
    VE X (.Call (.Attribute o "join" apos) [e] [] pos) (joinM fo fe) (tor To Te) none := by
  refine ⟨fun W tk => pe_imp (pe_join (ho.run W tk) (he.run W tk) hs hbase hline) fun σ H Q ⟨Z, env, Fs, S, c⟩ => ⟨Z, env, Fs, S, ?_⟩⟩
  unfold joinM bnd at c
  cases q : fo env with
  | err => rw [q] at c; exact c.elim
  | exc x fs e1 => rw [q] at c; exact fun cls dd H' Z' Fs' S' t r => c cls dd H' Z' Fs' S' (t.mono fun i q => (tor_sub i q).1) r
  | ok d e1 =>
    rw [q] at c
    intro v H1 Z1 Fs1 F1 S1 t1 r1 p1
    cases d <;> first | exact c.elim | skip
    rename_i a
    simp only [Rep] at r1
    refine ⟨⟨a, r1.1⟩, Z1, e1, Fs1, S1, ?_⟩
    dsimp only at c
    cases q2 : fe e1 with
    | err => rw [q2] at c; exact c.elim
    | exc x fs e2 => rw [q2] at c; exact fun cls dd H' Z' Fs' S' t r => c cls dd H' Z' Fs' S' (t1.trans t tor_sub) r
    | ok d2 e2 =>
      rw [q2] at c
      dsimp only at c
      intro v2 H2 Z2 Fs2 F2 S2 t2 r2 p2
      cases qj : joinD a d2 with
      | none => rw [qj] at c; exact c.elim
      | some d =>
        rw [qj] at c
        obtain ⟨p, ys, rfl, s, hl, rfl⟩ := joinD_ok r2 qj
        refine ⟨a, p, ys, r1.1, rfl, s, hl, ?_⟩
        exact c _ H2 Z2 Fs2 [] S2 (t1.trans t2 tor_sub) (by simp [Rep]) VP.nil
end

/-! ### slices -/
def cutD (xs : List D) (lo hi : Option Int) : List D := (xs.drop (HT.sIx xs.length 0 lo)).take (HT.sIx xs.length xs.length hi - HT.sIx xs.length 0 lo)
def sliceD : D → Option Int → Option Int → Option D
  | .lst _ xs, lo, hi => if D.owns xs then none else some (.lst true (cutD xs lo hi))
  | .tup xs, lo, hi => if D.owns xs then none else some (.tup (cutD xs lo hi))
  | .str z, lo, hi => if z.length ≤ 16777216 then some (.str (cutS z lo hi)) else none
  | _, _, _ => none
def ContO (K : PySem.W.Frag) (mg : Mg) (T : Nat → Bool) (W : WX) (Q : Option Int → Hp → Prop) (σ : L2.St) (Z : Addr → Prop) (H : Hp) (env : Env) (Fs : Nat → List Addr) : Out (Option Int) → Prop
  | .ok o env' => ∀ H' Z' Fs', SR K mg Z' H' σ env' Fs' → Tr T Z H env Fs Z' H' env' Fs' → Q o H'
  | .exc c fs env' => ∀ cls dd H' Z' Fs', SR K mg Z' H' σ env' Fs' → Tr T Z H env Fs Z' H' env' Fs' → XAt K mg Z' H' c fs cls dd → W cls dd σ H'
  | .err => False
structure VO (X : Cx) (e : Option Expr) (f : M (Option Int)) (T : Nat → Bool) : Prop where
  run : ∀ W, Takes X W → PO X e (fun σ H Q => ∃ Z env Fs, SR X.K X.mg Z H σ env Fs ∧ ContO X.K X.mg T W Q σ Z H env Fs (f env))
def partM (f : M D) : M (Option Int) := bnd f fun d => match d with
  | .int i => pur (some i)
  | _ => bad
def sliceM (k : Bool) (fe : M D) (fl fh : M (Option Int)) : M D := bnd fe fun d => if k || !d.own then bnd fl fun lo => bnd fh fun hi => ofO (sliceD d lo hi) else bad
theorem po_imp {X : Cx} {e : Option Expr} {t t' : TO} (h : PO X e t) (q : ∀ σ H Q, t' σ H Q → t σ H Q) : PO X e t' := ⟨fun pins s σ H Q I w => h.run pins s σ H Q I (q σ H Q w)⟩
section
variable {X : Cx} {e : Expr} {lo hi : Option Expr} {pos p2 : Pos} {fe f : M D} {fl fh : M (Option Int)} {T Te Tl Th : Nat → Bool} {s se : Option Nat}
theorem vo_none : VO X none (pur none) T0 := ⟨fun W tk => po_imp po_none fun σ H Q ⟨Z, env, Fs, S, c⟩ => c H Z Fs S Tr.refl⟩
theorem vo_some (h : VE X e f T s) : VO X (some e) (partM f) T := by
  refine ⟨fun W tk => po_imp (po_some (h.run W tk)) fun σ H Q ⟨Z, env, Fs, S, c⟩ => ⟨Z, env, Fs, S, ?_⟩⟩
  unfold partM bnd at c
  cases q : f env with
  | err => rw [q] at c; exact c.elim
  | exc x fs e1 => rw [q] at c; exact c
  | ok d e1 =>
    rw [q] at c
    intro v H1 Z1 Fs1 F1 S1 t1 r1 p1
    cases d <;> first | exact c.elim | skip
    rename_i i
    simp only [Rep] at r1
    exact ⟨i, r1.1, c H1 Z1 Fs1 S1 t1⟩
theorem Reps.drop {K : PySem.W.Frag} {mg : Mg} {Z : Addr → Prop} {H : Hp} : ∀ (n : Nat) {xs : List D} {vs : List V}, Reps K mg Z H xs vs [] → Reps K mg Z H (xs.drop n) (vs.drop n) []
  | 0, xs, vs, r => r
  | n + 1, [], vs, r => by
    simp only [Reps] at r
    rw [r.1]
    simp [Reps]
  | n + 1, x :: xs, vs, r => by
    simp only [Reps] at r
    obtain ⟨v, us, F1, F2, rfl, r1, r2, f⟩ := r
    obtain ⟨rfl, rfl⟩ := rep_nil2 f
    exact Reps.drop n r2
theorem Reps.take {K : PySem.W.Frag} {mg : Mg} {Z : Addr → Prop} {H : Hp} : ∀ (n : Nat) {xs : List D} {vs : List V}, Reps K mg Z H xs vs [] → Reps K mg Z H (xs.take n) (vs.take n) []
  | 0, xs, vs, r => by simp [Reps]
  | n + 1, [], vs, r => by
    simp only [Reps] at r
    rw [r.1]
    simp [Reps]
  | n + 1, x :: xs, vs, r => by
    simp only [Reps] at r
    obtain ⟨v, us, F1, F2, rfl, r1, r2, f⟩ := r
    obtain ⟨rfl, rfl⟩ := rep_nil2 f
    exact Reps.cons (F := []) r1 (Reps.take n r2)
theorem cut_rep {K : PySem.W.Frag} {mg : Mg} {Z : Addr → Prop} {H : Hp} {xs : List D} {vs : List V} (lo hi : Option Int) (r : Reps K mg Z H xs vs []) : Reps K mg Z H (cutD xs lo hi) (cutV vs lo hi) [] := by
  unfold cutD cutV
  rw [r.length]
  exact Reps.take _ (Reps.drop _ r)
theorem sliceD_ok {Z : Addr → Prop} {H : Hp} {d dr : D} {v : V} {F : List Addr} {lo hi : Option Int} {Q : VK} (zs : ∀ a, Z a → ∃ o, H a = some o) (r : Rep X.K X.mg Z H d v F) (h : sliceD d lo hi = some dr) (res : Res X.K X.mg Z H dr Q) :
    rSlL X.K v lo hi H Q ∨ rSlA X.K v lo hi H Q ∨ rSlS v lo hi H Q := by
  unfold sliceD at h
  split at h
  · split at h
    · cases h
    · rename_i ho
      cases h
      obtain ⟨a, vs, G, rfl, s, r⟩ := lst_sq r
      have e1 := r.unown (by simpa using ho)
      subst e1
      refine .inl ⟨a, vs, rfl, s, fun p hp => ?_⟩
      have al : Alloc Z H Z (upd H p (.lst (cutV vs lo hi))) [p] := Alloc.own hp zs
      refine res _ _ Z [p] al ?_
      simp only [Rep]
      exact ⟨p, _, [], rfl, upd_same, Reps.stay (al.stay zs) (cut_rep lo hi r) (fun _ h => by simp at h), rfl⟩
  · rename_i xs
    split at h
    · cases h
    · rename_i ho
      cases h
      have r0 := r
      obtain ⟨a, vs, rfl, s, r⟩ := tup_read r
      have e1 := r.unown (by simpa using ho)
      subst e1
      refine .inr (.inl ⟨a, vs, rfl, s, fun hw => ?_, fun hw p hp => ?_⟩)
      · have ec : cutD xs lo hi = xs := by
          unfold cutD
          rw [← r.length, hw.1, hw.2, r.length]
          simp
        rw [ec] at res
        exact res_flat zs res r0
      · have al : Alloc Z H (fun a => Z a ∨ a = p) (upd H p (.tup (cutV vs lo hi))) [] := Alloc.tup hp
        refine res _ _ _ [] al ?_
        simp only [Rep]
        exact ⟨p, _, rfl, .inl ⟨.inr rfl, .inl upd_same⟩, Reps.stay (al.stay zs) (cut_rep lo hi r) (fun _ h => by simp at h)⟩
  · split at h
    · rename_i hl
      cases h
      simp only [Rep] at r
      exact .inr (.inr ⟨_, r.1, by rw [sizeLine_eq]; exact hl, res_flat zs res (by simp [Rep])⟩)
    · cases h
  · cases h
theorem ve_slice (k : Bool) (he : VE X e fe Te se) (hl : VO X lo fl Tl) (hh : VO X hi fh Th) (hk : k = true → ∀ i, se = some i → tor Tl Th i = false) : VE X (.Subscript e (.Slice lo hi none p2) pos) (sliceM k fe fl fh) (tor Te (tor Tl Th)) none := by
  refine ⟨fun W tk => pe_imp (pe_slice (SlR.or sl_list (SlR.or sl_tupA sl_str)) (he.run W tk) (hl.run W tk) (hh.run W tk)) fun σ H Q ⟨Z, env, Fs, S, c⟩ => ⟨Z, env, Fs, S, ?_⟩⟩
  unfold sliceM bnd at c
  cases q : fe env with
  | err => rw [q] at c; exact c.elim
  | exc x fs e1 => rw [q] at c; exact fun cls dd H' Z' Fs' S' t r => c cls dd H' Z' Fs' S' (t.mono fun i q => (tor_sub i q).1) r
  | ok d e1 =>
    rw [q] at c
    dsimp only at c
    intro v H1 Z1 Fs1 F1 S1 t1 r1 p1
    split at c
    · rename_i hd
      refine ⟨Z1, e1, Fs1, S1, ?_⟩
      dsimp only at c
      cases q2 : fl e1 with
      | err => rw [q2] at c; exact c.elim
      | exc x fs e2 => rw [q2] at c; exact fun cls dd H' Z' Fs' S' t r => c cls dd H' Z' Fs' S' (t1.trans t fun i q => ⟨(tor_sub i q).1, (tor_sub i (tor_sub i q).2).1⟩) r
      | ok l e2 =>
        rw [q2] at c
        dsimp only at c
        intro H2 Z2 Fs2 S2 t2
        refine ⟨Z2, e2, Fs2, S2, ?_⟩
        cases q3 : fh e2 with
        | err => rw [q3] at c; exact c.elim
        | exc x fs e3 =>
          rw [q3] at c
          exact fun cls dd H' Z' Fs' S' t r => c cls dd H' Z' Fs' S' (t1.trans (t2.trans t (T := tor Tl Th) tor_sub) tor_sub) r
        | ok h e3 =>
          rw [q3] at c
          dsimp only at c
          intro H3 Z3 Fs3 S3 t3
          have t23 : Tr (tor Tl Th) Z1 H1 e1 Fs1 Z3 H3 e3 Fs3 := t2.trans t3 tor_sub
          have r3 := Rep.over S1 p1 r1 t23 (by
            rcases Bool.or_eq_true_iff.mp hd with q | q
            · exact .inr (hk q)
            · exact .inl (by simpa using q))
          cases qs : sliceD d l h with
          | none => rw [qs] at c; exact c.elim
          | some dr =>
            rw [qs] at c
            have c := Cont.step (T2 := T0) c (t1.trans t23 (T := tor Te (tor Tl Th)) tor_sub) fun i q => ⟨q, rfl⟩
            exact sliceD_ok S3.zs r3 qs fun v H' Z' Fd a r => Cont.ret S3 c a r
    · exact c.elim
end
end VI
/-! V19: isinstance; exceptions as values -/
namespace VI
open PySem PySem.Spec L2

/-- what isinstance asks of a value of type t -/
def KitV (K : PySem.W.Frag) (H : Hp) (x : V) (t : Value) : Prop := TyX K H x t ∨
  ∃ a C dd, x = .ref a ∧ t = .ref C ∧ H a = some (ExO (.ref C) dd a) ∧ (dd = none ∨ ∃ d fs, dd = some d ∧ H d = some (.xd fs)) ∧ ExcC K C
theorem KitV.upd {K : PySem.W.Frag} {H : Hp} {x : V} {t : Value} {p : Addr} {o : HO} (h : KitV K H x t) (hp : H p = none) : KitV K (upd H p o) x t := by
  have k : ∀ {a : Addr} {u : HO}, H a = some u → (L2.upd H p o) a = some u := fun {a u} e => by rw [upd_ne (ne_of_none e hp)]; exact e
  rcases h with h | ⟨a, C, dd, h1, h2, h3, h4, h5⟩
  · refine .inl ?_
    cases h with
    | base b =>
      refine .base ?_
      cases b with
      | non => exact .non
      | bl y => exact .bl y
      | int y => exact .int y
      | str y => exact .str y
      | flt y => exact .flt y
      | lst e => exact .lst (k e)
      | frz e => exact .frz (k e)
      | tup e => exact .tup (k e)
      | dK e => exact .dK (k e)
      | dT e => exact .dT (k e)
      | ins e cl ha hn htk hm => exact .ins (k e) cl ha hn htk hm
    | byt b => exact .byt b
    | set e => exact .set (k e)
    | kList e c => exact .kList e c
    | kTuple e c => exact .kTuple e c
    | kDict e c => exact .kDict e c
    | fTuple e => exact .fTuple (k e)
    | fDict e => exact .fDict (k e)
  · exact .inr ⟨a, C, dd, h1, h2, k h3, h4.imp_right fun ⟨d, fs, e1, e2⟩ => ⟨d, fs, e1, k e2⟩, h5⟩
section
variable {X : Cx} {pins : List (Addr × Obj)} {σ : L2.St} {H : Hp} {s : Shared}
theorem kitV_of {x : V} {u t : Value} (I : L2.Inv X pins σ H s) (rx : RelV x u) (ty : KitV X.K H x t) : ∃ P : Heap → Prop, PySem.W.KitX X.K u t P ∧ P s.heap ∧ u ≠ .builtin "__main__.__loader__#opaque" := by
  rcases ty with ty | ⟨a, C, dd, rfl, rfl, hH, hd, ex⟩
  · exact kit_of I rx ty
  · cases rx
    obtain ⟨⟨oe, vs, ho, hz, hdat⟩, _⟩ := I.hok a _ hH
    obtain ⟨cd, hc, _⟩ := PySem.W.any_some ex.hd
    have hcl : (PySem.W.clsIn X.K C).isSome = true := by rw [hc]; rfl
    have hno : PySem.W.notCls oe = true := by
      unfold PySem.W.notCls
      rw [hdat] <;> rfl
    rcases hd with rfl | ⟨d, fs, rfl, hD⟩
    · exact ⟨_, PySem.W.kitx_exc (x := a) (ox := oe) (od := none) hcl ex.hg ex.hk ex.hs ex.ha ex.hn ex.ht ex.hm, ⟨ho, hz.1, hno, by rw [hz.2]; trivial⟩, fun z => nomatch z⟩
    · obtain ⟨mA, ⟨od, es, ep, e1, _⟩, _⟩ := (show ∃ mA, s.heap.Ns1 d mA ∧ ∀ f, RelO (fs.lookup f) (mA f) from I.hok d _ hD)
      exact ⟨_, PySem.W.kitx_exc (x := a) (ox := oe) (od := some od) hcl ex.hg ex.hk ex.hs ex.ha ex.hn ex.ht ex.hm, ⟨ho, hz.1, hno, by rw [hz.2]; exact e1⟩, fun z => nomatch z⟩
end
section
variable {X : Cx}
def rIsZ (K : PySem.W.Frag) : List V → Hp → VK → Prop := fun xs H Q => ∃ (x c : V) (t u : Value) (b : Bool), xs = [x, c] ∧ ClsV c u ∧ KitV K H x t ∧ PySem.W.kitOne K t u = some b ∧ Q (.bl b) H
theorem call_isZ : CallR X (.builtin "isinstance") (rIsZ X.K) := by
  intro pins s σ H xs us Q I r h
  obtain ⟨x, c, t, u, b, rfl, k, ty, e, q⟩ := h
  obtain ⟨u1, u2, rfl, r1, r2⟩ := vals2 r
  have e2 := k.eq r2
  subst e2
  obtain ⟨P, Z, p, hx⟩ := kitV_of I r1 ty
  exact PySem.W.kia_one Z I.kIn p e hx fun tk => ⟨.bl b, H, I.tok tk, rfl, q⟩
def rIsZT (K : PySem.W.Frag) : List V → Hp → VK → Prop := fun xs H Q => ∃ (x : V) (tp : Addr) (cs : List V) (t : Value) (us : List Value) (b : Bool), xs = [x, .ref tp] ∧ H tp = some (.tup cs) ∧ Paired ClsV cs us ∧ KitV K H x t ∧ PySem.W.kitAny K t us = some b ∧ Q (.bl b) H
theorem call_isZT : CallR X (.builtin "isinstance") (rIsZT X.K) := by
  intro pins s σ H xs us Q I r h
  obtain ⟨x, tp, cs, t, ws, b, rfl, hT, k, ty, e, q⟩ := h
  obtain ⟨u1, u2, rfl, r1, r2⟩ := vals2 r
  cases (show u2 = Value.ref tp from r2)
  obtain ⟨P, Z, p, hx⟩ := kitV_of I r1 ty
  obtain ⟨_, its, rv, o, h1, h2, n, h3⟩ := (show ObjOk X.prog X.w H s.heap tp (.tup cs) from I.hok tp _ hT)
  have e3 := ClsV.all k rv
  subst e3
  obtain ⟨oc, od, dt, sl⟩ := o
  simp only at h2 h3
  subst h2 h3
  exact PySem.W.kia_tup Z I.kIn p h1 e hx fun tk => ⟨.bl b, H, I.tok tk, rfl, q⟩
end
/-- a value's type, by name -/
def D.tyn : D → String
  | .non => "NoneType"
  | .bl _ => "bool"
  | .int _ => "int"
  | .str _ => "str"
  | .tup _ => "tuple"
  | .lst _ _ => "list"
  | .dct _ _ => "dict"
  | .ins _ _ _ => ""
  | .exc _ _ => ""
def isiD (tb : List (String × Bool)) (te : List (Str × Bool)) : D → Option D
  | .exc c _ => (te.lookup c).map .bl
  | .ins _ _ _ => none
  | d => (tb.lookup d.tyn).map .bl
theorem lookup_mem {α β : Type} [BEq α] [LawfulBEq α] : ∀ {l : List (α × β)} {a : α} {b : β}, l.lookup a = some b → (a, b) ∈ l
  | [], _, _, h => by simp at h
  | (x, y) :: l, a, b, h => by
    simp only [List.lookup] at h
    split at h
    · rename_i e
      have := eq_of_beq e
      subst this
      cases h
      exact List.mem_cons_self
    · exact List.mem_cons_of_mem _ (lookup_mem h)
section
variable {K : PySem.W.Frag} {mg : Mg} {Z : Addr → Prop} {H : Hp}
/-- what the class, or the classes, say of a type -/
theorem isiD_ok {tb : List (String × Bool)} {te : List (Str × Bool)} {ans : Value → Option Bool} (htb : ∀ p ∈ tb, ans (.type p.1) = some p.2) (hte : ∀ p ∈ te, ∀ C, mg p.1 = some (.ref C) → ExcC K C ∧ ans (.ref C) = some p.2)
    {d r : D} {v : V} {F : List Addr} (ra : Rep K mg Z H d v F) (h : isiD tb te d = some r) : ∃ b t, r = .bl b ∧ KitV K H v t ∧ ans t = some b := by
  have go : ∀ {t : String}, (tb.lookup t).map D.bl = some r → KitV K H v (.type t) → ∃ b t, r = .bl b ∧ KitV K H v t ∧ ans t = some b := fun {t} e kv => by
    cases el : tb.lookup t with
    | none => rw [el] at e; cases e
    | some b =>
      rw [el] at e
      cases e
      exact ⟨b, _, rfl, kv, htb _ (lookup_mem el)⟩
  cases d with
  | non => simp only [Rep] at ra; obtain ⟨rfl, _⟩ := ra; exact go h (.inl (.base .non))
  | bl y => simp only [Rep] at ra; obtain ⟨rfl, _⟩ := ra; exact go h (.inl (.base (.bl y)))
  | int y => simp only [Rep] at ra; obtain ⟨rfl, _⟩ := ra; exact go h (.inl (.base (.int y)))
  | str y => simp only [Rep] at ra; obtain ⟨rfl, _⟩ := ra; exact go h (.inl (.base (.str y)))
  | tup xs =>
    simp only [Rep] at ra
    obtain ⟨a, vs, rfl, t, _⟩ := ra
    refine go h (.inl ?_)
    rcases t with ⟨_, t | ⟨o, t⟩⟩ | ⟨o, its, n, h1, h2, _⟩
    · exact .base (.tup t)
    · exact .fTuple t
    · exact .kTuple h1 h2
  | lst o xs =>
    refine go h (.inl ?_)
    cases o with
    | true =>
      simp only [Rep] at ra
      obtain ⟨a, vs, G, rfl, t, _⟩ := ra
      exact .base (.lst t)
    | false =>
      simp only [Rep] at ra
      obtain ⟨a, vs, rfl, t, _⟩ := ra
      rcases t with ⟨_, t | ⟨o, t⟩⟩ | ⟨o, its, n, h1, h2, _⟩
      · exact .base (.lst t)
      · exact .base (.frz t)
      · exact .kList h1 h2
  | dct o kvs =>
    refine go h (.inl ?_)
    cases o with
    | true =>
      simp only [Rep] at ra
      obtain ⟨a, ks, vs, G, rfl, t, _⟩ := ra
      exact .base (.dK t)
    | false =>
      simp only [Rep] at ra
      obtain ⟨a, ks, vs, rfl, t, _⟩ := ra
      exact .base (.dK t)
  | ins o c fs => simp [isiD] at h
  | exc c fs =>
    simp only [isiD] at h
    cases el : te.lookup c with
    | none => rw [el] at h; cases h
    | some b =>
      rw [el] at h
      cases h
      simp only [Rep] at ra
      obtain ⟨a, C, dd, vs, rfl, m, t, z, _, _, y⟩ := ra
      obtain ⟨e1, e2⟩ := hte _ (lookup_mem el) C m
      exact ⟨b, .ref C, rfl, .inr ⟨a, C, dd, rfl, rfl, t, y.elim (fun y => .inl y.2) fun ⟨d, y1, y2, _⟩ => .inr ⟨d, _, y1, y2⟩, e1⟩, e2⟩
end
section
variable {X : Cx} {a c : Expr} {cs : List Expr} {p pos : Pos} {fa : M D} {Ta : Nat → Bool} {sa : Option Nat} {tb : List (String × Bool)} {te : List (Str × Bool)} {cv : V} {u : Value} {k : Nat}
theorem ve_isi (hg : Gl X "isinstance") (hm : X.mg "isinstance" = none) (ha : VE X a fa Ta sa) (hc : PE X c (tC cv)) (hv : ClsV cv u) (htb : ∀ p ∈ tb, PySem.W.kitOne X.K (.type p.1) u = some p.2) (hte : ∀ p ∈ te, ∀ C, X.mg p.1 = some (.ref C) → ExcC X.K C ∧ PySem.W.kitOne X.K (.ref C) u = some p.2)
    (hb : bootBuiltins "isinstance" = some (.builtin "isinstance"))
    (he : starEach [a, c] X.env = (false, eval a X.env) :: starEach [c] X.env := by rfl) (he2 : starEach [c] X.env = (false, eval c X.env) :: starEach [] X.env := by rfl)
    (hpl : ∀ pos, (backTo pos (starEach [c] X.env)).any (·.1) = false := by intro _; rfl) : VE X (.Call (.Name "isinstance" p) [a, c] [] pos) (oneM fa (isiD tb te)) Ta none :=
  ⟨fun W tk => pe_imp (pe_callB call_isZ hg hm hb (pa_cons (ha.run W tk) (pa_cons hc pa_nil he2) he) (by decide) (by decide) he (hpl pos)) fun σ H Q h => tE_one (r := fun x H1 Q => rIsZ X.K [x, cv] H1 Q) (fun {Z H d1 d v1 F1 Q} zs ra e res => by
    obtain ⟨b, t, rfl, kv, e2⟩ := isiD_ok (ans := fun t => PySem.W.kitOne X.K t u) htb hte ra e
    exact ⟨v1, cv, t, u, b, rfl, hv, kv, e2, res_flat zs res (by simp [Rep])⟩) h⟩
/-- the classes in a tuple -/
structure VCs (X : Cx) (es : List Expr) (cs : List V) (us : List Value) : Prop where
  run : PA X es (fun _ H Q => Q cs H)
  cl : Paired ClsV cs us
theorem vcs_nil : VCs X [] [] [] := ⟨pa_imp pa_nil fun _ _ _ h => h, .nil⟩
theorem vcs_cons {es : List Expr} {cs : List V} {us : List Value} (h1 : PE X c (tC cv)) (h2 : ClsV cv u) (h : VCs X es cs us) (hs : starEach (c :: es) X.env = (false, eval c X.env) :: starEach es X.env := by rfl) : VCs X (c :: es) (cv :: cs) (u :: us) :=
  ⟨pa_imp (pa_cons h1 h.run hs) fun _ _ _ h => h, .cons h2 h.cl⟩
theorem ve_isiT {vs : List V} {us : List Value} {pt : Pos} (hg : Gl X "isinstance") (hm : X.mg "isinstance" = none) (ha : VE X a fa Ta sa) (hc : VCs X cs vs us) (hl : vs.length ≤ 1000) (htb : ∀ p ∈ tb, PySem.W.kitAny X.K (.type p.1) us = some p.2) (hte : ∀ p ∈ te, ∀ C, X.mg p.1 = some (.ref C) → ExcC X.K C ∧ PySem.W.kitAny X.K (.ref C) us = some p.2)
    (hb : bootBuiltins "isinstance" = some (.builtin "isinstance"))
    (he : starEach [a, .Tuple cs k pt] X.env = (false, eval a X.env) :: starEach [.Tuple cs k pt] X.env := by rfl) (he2 : starEach [.Tuple cs k pt] X.env = (false, eval (.Tuple cs k pt) X.env) :: starEach [] X.env := by rfl)
    (hpl : ∀ pos, (backTo pos (starEach [.Tuple cs k pt] X.env)).any (·.1) = false := by intro _; rfl) : VE X (.Call (.Name "isinstance" p) [a, .Tuple cs k pt] [] pos) (oneM fa (isiD tb te)) Ta none :=
  ⟨fun W tk => pe_imp (pe_callB call_isZT hg hm hb (pa_cons (ha.run W tk) (pa_cons (pe_tup hc.run) pa_nil he2) he) (by decide) (by decide) he (hpl pos)) fun σ H Q h => tE_one (r := fun x H1 Q => vs.length ≤ sizeLine ∧ ∀ q, H1 q = none → rIsZT X.K [x, .ref q] (upd H1 q (.tup vs)) Q) (fun {Z H d1 d v1 F1 Q} zs ra e res => by
    obtain ⟨b, t, rfl, kv, e2⟩ := isiD_ok (ans := fun t => PySem.W.kitAny X.K t us) htb hte ra e
    refine ⟨by rw [sizeLine_eq]; omega, fun q hq => ⟨v1, q, vs, t, us, b, rfl, upd_same, hc.cl, kv.upd hq, e2, ?_⟩⟩
    exact res _ _ _ [] (Alloc.tup hq) (by simp [Rep])) h⟩
end

/-! ### a new exception, as a value -/
def excM (c : Str) (fa : M D) : M D := bnd fa fun _ => pur (.exc c [])
section
variable {X : Cx} {e : Expr} {p pos : Pos} {fa : M D} {Ta : Nat → Bool} {sa : Option Nat} {x : Str}
theorem vexO_ok {P : Program} {w : World} {H : Hp} {h : Heap} {a : Addr} {cls : Value} {d : Option Addr} {oe : Obj} {vs : Array Value} (e : h.get? a = some oe) (z : Zc cls d oe) (dd : oe.data = .fields vs) : ObjOk P w H h a (ExO cls d a) :=
  ⟨⟨oe, vs, e, z, dd⟩, ⟨oe, e⟩, fun _ _ ⟨o, v, q, r⟩ k => ⟨o, v, k o q, r⟩⟩
theorem pe_exc1' {C : Addr} {bmB : List Value} {B newId initId : String} {ta : TE} (F : ExcBaseFacts B newId initId bmB) (q : PySem.W.excIn X.K C bmB newId = true) (gC : X.mg x = some (.ref C)) (kC : PySem.W.keepIn X.K (.ref C) = true) (hg : Gl X x)
    (he : PE X e ta) (hs : starEach [e] X.env = (false, eval e X.env) :: starEach [] X.env := by rfl) (hdb : (x == ("__debug__" : Str)) = false := by decide) :
    PE X (.Call (.Name x p) [e] [] pos) (fun σ H Q => ta σ H fun _ H1 => ∀ a, H1 a = none → Q (.ref a) (upd H1 a (ExO (.ref C) none a))) := by
  refine ⟨fun pins s σ H Q I h => ?_⟩
  refine wpAny_Call_Name_kw (ld_glob I hg gC ?_ hdb)
  refine PySem.W.callWith_K (h₀ := X.base) I.ok.mod.kin kC ?_ hs (by rfl)
  rw [hs]
  show wpAny _ _ (spliced ((false, eval e X.env) :: backTo pos (starEach [] X.env))) _ _ s
  refine Calls.spliced_cons (thn (he.run pins s σ H _ I h) fun u s1 ⟨v, H1, I1, r1, q1⟩ => ?_)
  refine Calls.spliced_nil ⟨I1.kIn, ?_⟩
  show wpAny _ _ (call (.ref C) [u]) _ _ _
  obtain ⟨bm, N, nm, qn, bs, hdct, sn, sub, ab, col, dd, k0, k1, k2, k3, k5, mN, hC, hN, hni, T⟩ := exc_obj I1.kIn q
  refine wpAny_call_exc_subT F T hC hN hni (fun h' a hm => ?_) (by show 1 ≤ sizeLine; rw [sizeLine_eq]; omega)
  have hn : H1 a = none := I1.hok.gone hm.new
  obtain ⟨t, ht, _, _⟩ := hm.there
  exact ⟨.ref a, upd H1 a (ExO (.ref C) none a), I1.laidN hm.keeps hm.new hn (vexO_ok ht ⟨rfl, rfl⟩ rfl), rfl, q1 a hn⟩
theorem ve_exc1 {C : Addr} {bmB : List Value} {B newId initId : String} (F : ExcBaseFacts B newId initId bmB) (q : PySem.W.excIn X.K C bmB newId = true) (gC : X.mg x = some (.ref C)) (kC : PySem.W.keepIn X.K (.ref C) = true) (hg : Gl X x)
    (he : VE X e fa Ta sa) (hs : starEach [e] X.env = (false, eval e X.env) :: starEach [] X.env := by rfl) (hdb : (x == ("__debug__" : Str)) = false := by decide) : VE X (.Call (.Name x p) [e] [] pos) (excM x fa) Ta none := by
  refine ⟨fun W tk => pe_imp (pe_exc1' F q gC kC hg (he.run W tk) hs hdb) fun σ H Q ⟨Z, env, Fs, S, c⟩ => ⟨Z, env, Fs, S, ?_⟩⟩
  unfold excM bnd at c
  cases q : fa env with
  | err => rw [q] at c; exact c.elim
  | exc y fs e1 => rw [q] at c; exact c
  | ok d e1 =>
    rw [q] at c
    dsimp only at c
    intro v H1 Z1 Fs1 F1 S1 t1 r1 p1 a ha
    have c := Cont.step (T2 := T0) c t1 fun i q => ⟨q, rfl⟩
    have al : Alloc Z1 H1 (fun b => Z1 b ∨ b = a) (upd H1 a (ExO (.ref C) none a)) [] := Alloc.tup ha
    refine Cont.ret S1 c al ?_
    simp only [Rep]
    exact ⟨a, C, none, [], rfl, gC, upd_same, .inr rfl, trivial, (by simp [Repf]), .inl ⟨trivial, rfl⟩⟩
end
end VI
/-! V20: a def is run -/
namespace VI
open PySem PySem.Spec L2

/-- what stands behind the parameters at the end -/
def finL : List D → List (Option D) → Option (List D)
  | [], _ => some []
  | d :: ds, [] => if d.own then none else (finL ds []).map (d :: ·)
  | d :: ds, s :: ss => if d.own then (match s with
    | some d' => (finL ds ss).map (d' :: ·)
    | none => none) else (finL ds ss).map (d :: ·)
def env0 (n : Nat) (ds : List D) : Env := ⟨ds.map some ++ List.replicate (n - ds.length) none, ds.map D.own⟩
def runB (n : Nat) (body : M Fl) (ds : List D) : CRes := match body (env0 n ds) with
  | .ok (.rt d) e => (match finL ds e.s with
    | some fin => .ok d fin
    | none => .err)
  | .ok .nx e => (match finL ds e.s with
    | some fin => .ok .non fin
    | none => .err)
  | .exc c fs e => (match finL ds e.s with
    | some fin => .exc c fs fin
    | none => .err)
  | _ => .err
section
variable {K : PySem.W.Frag} {mg : Mg} {Z Z' : Addr → Prop} {H H' : Hp}
theorem finL_len : ∀ {ds : List D} {ss : List (Option D)} {fin : List D}, finL ds ss = some fin → fin.length = ds.length
  | [], _, fin, h => by simp only [finL, Option.some.injEq] at h; subst h; rfl
  | d :: ds, [], fin, h => by
    simp only [finL] at h
    split at h
    · cases h
    · cases e : finL ds [] with
      | none => rw [e] at h; cases h
      | some f => rw [e] at h; cases h; simp [finL_len e]
  | d :: ds, s :: ss, fin, h => by
    simp only [finL] at h
    split at h
    · split at h
      · cases e : finL ds ss with
        | none => rw [e] at h; cases h
        | some f => rw [e] at h; cases h; simp [finL_len e]
      · cases h
    · cases e : finL ds ss with
      | none => rw [e] at h; cases h
      | some f => rw [e] at h; cases h; simp [finL_len e]
theorem finL_get : ∀ {ds : List D} {ss : List (Option D)} {fin : List D} {i : Nat} {d : D}, finL ds ss = some fin → ds[i]? = some d → ∃ d', fin[i]? = some d' ∧ ((d.own = true ∧ ss[i]? = some (some d')) ∨ (d.own = false ∧ d' = d))
  | [], _, fin, i, d, h, q => by simp at q
  | x :: ds, [], fin, 0, d, h, q => by
    simp only [finL] at h
    simp only [List.getElem?_cons_zero, Option.some.injEq] at q
    subst q
    split at h
    · cases h
    · rename_i ho
      cases e : finL ds [] with
      | none => rw [e] at h; cases h
      | some f => rw [e] at h; cases h; exact ⟨x, rfl, .inr ⟨by simpa using ho, rfl⟩⟩
  | x :: ds, [], fin, i + 1, d, h, q => by
    simp only [finL] at h
    simp only [List.getElem?_cons_succ] at q
    split at h
    · cases h
    · cases e : finL ds [] with
      | none => rw [e] at h; cases h
      | some f =>
        rw [e] at h; cases h
        obtain ⟨d', h1, h2⟩ := finL_get e q
        exact ⟨d', h1, by simpa using h2⟩
  | x :: ds, s :: ss, fin, 0, d, h, q => by
    simp only [finL] at h
    simp only [List.getElem?_cons_zero, Option.some.injEq] at q
    subst q
    split at h
    · rename_i ho
      split at h
      · rename_i d'
        cases e : finL ds ss with
        | none => rw [e] at h; cases h
        | some f => rw [e] at h; cases h; exact ⟨d', rfl, .inl ⟨ho, rfl⟩⟩
      · cases h
    · rename_i ho
      cases e : finL ds ss with
      | none => rw [e] at h; cases h
      | some f => rw [e] at h; cases h; exact ⟨x, rfl, .inr ⟨by simpa using ho, rfl⟩⟩
  | x :: ds, s :: ss, fin, i + 1, d, h, q => by
    simp only [finL] at h
    simp only [List.getElem?_cons_succ] at q
    split at h
    · split at h
      · cases e : finL ds ss with
        | none => rw [e] at h; cases h
        | some f =>
          rw [e] at h; cases h
          simpa using finL_get e q
      · cases h
    · cases e : finL ds ss with
      | none => rw [e] at h; cases h
      | some f =>
        rw [e] at h; cases h
        simpa using finL_get e q
/-- at the entry -/
theorem start_sr {N : List Str} {ds : List D} {vs : List V} {Gs : Nat → List Addr} (S : SR K mg Z H (vs.map some) (envOf ds) Gs) : SR K mg Z H (L2.start N vs) (env0 N.length ds) Gs where
  len := by
    have := S.len
    simp only [envOf, List.length_map] at this
    simp [env0, L2.start, this]
  rep := fun i d e => by
    simp only [env0] at e
    have hl := S.len
    simp only [envOf, List.length_map] at hl
    by_cases hi : i < ds.length
    · rw [List.getElem?_append_left (by simpa using hi)] at e
      obtain ⟨v, h1, h2⟩ := S.rep i d e
      refine ⟨v, ?_, h2⟩
      unfold L2.start
      rw [List.getElem?_append_left (by simpa [← hl] using hi)]
      exact h1
    · rw [List.getElem?_append_right (by simpa using hi), List.getElem?_replicate] at e
      split at e <;> cases e
  no := fun i h => S.no i fun d e => h d (by
    simp only [env0]
    have hi : i < ds.length := by
      have := (List.getElem?_eq_some_iff.mp e).1
      simpa [envOf] using this
    rw [List.getElem?_append_left (by simpa using hi)]
    exact e)
  nd := S.nd
  dj := S.dj
  zf := S.zf
  zs := S.zs
/-- what the caller gets back -/
theorem end_sr {N : List Str} {T : Nat → Bool} {ds fin : List D} {vs : List V} {Gs Fs' : Nat → List Addr} {σ' : L2.St} {e' : Env} (S : SR K mg Z H (vs.map some) (envOf ds) Gs) (S' : SR K mg Z' H' σ' e' Fs') (t : Tr T Z H (env0 N.length ds) Gs Z' H' e' Fs')
    (pn : Pin (env0 N.length ds).p (L2.start N vs) σ') (hf : finL ds e'.s = some fin) : ∃ Gs', SR K mg Z' H' (vs.map some) (envOf fin) Gs' ∧ Tr (fun _ => true) Z H (envOf ds) Gs Z' H' (envOf fin) Gs' ∧ ∀ i a, a ∈ Gs' i → a ∈ Fs' i := by
  have hl := S.len
  simp only [envOf, List.length_map] at hl
  have hfl := finL_len hf
  have st := t.stay (start_sr (N := N) S)
  let ow : Nat → Bool := fun i => match ds[i]? with
    | some d => d.own
    | none => false
  have sub : ∀ i a, a ∈ (fun i => if ow i = true then Fs' i else []) i → a ∈ Fs' i := fun i a h => by
    dsimp only at h
    split at h
    · exact h
    · cases h
  refine ⟨fun i => if ow i = true then Fs' i else [], ⟨by simp [envOf, hfl, hl], fun i d e => ?_, fun i h => ?_, fun i => ?_, fun i j ne a ha hb => S'.dj i j ne a (sub i a ha) (sub j a hb), fun i a ha => S'.zf i a (sub i a ha), S'.zs⟩, ⟨t.z, t.zn, t.keep, t.gr, fun i a ha => t.new i a (sub i a ha), fun i h => (by cases h), rfl⟩, sub⟩
  · simp only [envOf, List.getElem?_map] at e
    cases ef : fin[i]? with
    | none => rw [ef] at e; cases e
    | some d0 =>
      rw [ef] at e
      cases e
      have hi : i < ds.length := by rw [← hfl]; exact (List.getElem?_eq_some_iff.mp ef).1
      obtain ⟨d1, h1, h2⟩ := finL_get hf (List.getElem?_eq_getElem hi)
      rw [ef] at h1
      cases h1
      obtain ⟨v, q1, q2⟩ := S.rep i ds[i] (by simp [envOf, hi])
      have how : ow i = ds[i].own := by show (match ds[i]? with | some d => d.own | none => false) = _; rw [List.getElem?_eq_getElem hi]
      rcases h2 with ⟨o, h2⟩ | ⟨o, rfl⟩
      · obtain ⟨v', r1, r2⟩ := S'.rep i d h2
        have hp : (env0 N.length ds).p[i]? = some true := by simp [env0, hi, o]
        have hs : (L2.start N vs)[i]? = (vs.map some)[i]? := by
          unfold L2.start
          rw [List.getElem?_append_left (by simpa [← hl] using hi)]
        rw [pn i hp, hs, q1] at r1
        cases r1
        refine ⟨v, q1, ?_⟩
        show Rep K mg Z' H' _ v (if ow i = true then Fs' i else [])
        rw [how, o, if_pos rfl]
        exact r2
      · refine ⟨v, q1, ?_⟩
        show Rep K mg Z' H' _ v (if ow i = true then Fs' i else [])
        rw [how, o, if_neg Bool.false_ne_true]
        have e0 := q2.unown o
        rw [e0] at q2
        exact q2.stay st fun _ h => by simp at h
  · show (if ow i = true then Fs' i else []) = []
    split
    · rename_i o
      have hi : i < ds.length := by
        by_cases hi : i < ds.length
        · exact hi
        · have : ow i = false := by
            show (match ds[i]? with | some d => d.own | none => false) = _
            rw [List.getElem?_eq_none (by simpa using hi)]
          rw [this] at o; cases o
      exfalso
      refine h fin[i] ?_
      simp [envOf, hfl, hi]
    · rfl
  · show (if ow i = true then Fs' i else []).Nodup
    split
    · exact S'.nd i
    · exact List.nodup_nil
end
section
variable {P : Program} {w : World} {K : PySem.W.Frag} {mg : Str → Option Value} {base : Heap}
theorem fnD {x qual : Str} {st : Stmt} {f : Addr} {fd : FuncData} {N ps : List Str} {k : Nat} {body : M Fl} (F : Fun K x qual st f fd) (S : FnScope N ps (defScope st))
    (hb : ∀ (cdv : Value) (A : Around) (outer : List PySem.Env) (s : Shared) (H : Hp) (E : XK), Room k (A.deeper (PyProof.Rows.envOfC qual (defScope st) s.heap.objs.size f cdv)) →
      ∃ T, VSs (cxOf (L2.CX P w) P w K mg base N qual (defScope st) f cdv A outer s H E) (defBody st) body T) : FnOk P w K mg base (L2.CX P w) (k + 1) f fd ps (spOf K mg ps.length (runB N.length body)) := by
  refine F.okX S (fun vs H Q E h => h.1) fun cdv A outer s H vs Q E hr h => ?_
  obtain ⟨T, v⟩ := hb cdv A outer s H E hr
  refine ⟨_, v.run (fun cls d _ H' => E cls d H') (takes_of rfl rfl rfl rfl), ?_⟩
  obtain ⟨hl, Z, ds, Gs, S0, c⟩ := h
  refine ⟨Z, env0 N.length ds, Gs, start_sr S0, ?_⟩
  unfold runB at c
  cases q : body (env0 N.length ds) with
  | err => rw [q] at c; exact c
  | exc cc fs e =>
    rw [q] at c
    intro cls dd σ' H' Z' Fs' S' t pn r
    dsimp only at c
    split at c
    · rename_i rd rf hr
      split at hr <;> cases hr
    · rename_i c' fs' fin hc
      split at hc
      · rename_i fin' hf
        cases hc
        obtain ⟨Gs', S2, t2, _⟩ := end_sr S0 S' t pn hf
        exact c cls dd H' Z' Gs' S2 t2 r
      · cases hc
    · exact c.elim
  | ok fl e =>
    rw [q] at c
    cases fl with
    | bk => exact c.elim
    | ct => exact c.elim
    | rt d =>
      intro v σ' H' Z' Fs' Fd S' t pn r p
      dsimp only at c
      split at c
      · rename_i rd rf hr
        split at hr
        · rename_i fin' hf
          cases hr
          obtain ⟨Gs', S2, t2, sub⟩ := end_sr S0 S' t pn hf
          exact c v H' Z' Gs' Fd S2 t2 r ⟨p.1, fun a ha => ⟨fun j z => (p.2 a ha).1 j (sub j a z), (p.2 a ha).2⟩⟩
        · cases hr
      · rename_i c' fs' fin hc
        split at hc <;> cases hc
      · exact c.elim
    | nx =>
      intro σ' H' Z' Fs' S' t pn
      dsimp only at c
      split at c
      · rename_i rd rf hr
        split at hr
        · rename_i fin' hf
          cases hr
          obtain ⟨Gs', S2, t2, sub⟩ := end_sr S0 S' t pn hf
          exact c .non H' Z' Gs' [] S2 t2 (by simp [Rep]) VP.nil
        · cases hr
      · rename_i c' fs' fin hc
        split at hc <;> cases hc
      · exact c.elim
end

/-! ### the program's defs -/
abbrev Ph := Nat → List D → CRes
structure DefI where
  x : Str
  qual : Str
  st : Stmt
  N : List Str
  ps : List Str
  b : Ph → M Fl
def PhiN (DL : List DefI) : Nat → Ph
  | 0 => fun _ _ => .err
  | n + 1 => fun i ds => match DL[i]? with
    | some d => runB d.N.length (d.b (PhiN DL n)) ds
    | none => .err
/-- what the top has made of a def -/
structure Has (K : PySem.W.Frag) (mg : Mg) (d : DefI) : Prop where
  sc : FnScope d.N d.ps (defScope d.st)
  fn : ∃ f fd, Fun K d.x d.qual d.st f fd ∧ Binds K fd d.ps [] ∧ mg d.x = some (.ref f)
structure CallOk (P : Program) (w : World) (K : PySem.W.Frag) (mg : Mg) (base : Heap) (k : Nat) (d : DefI) (φ : List D → CRes) : Prop where
  ex : ∃ f fd, FnOk P w K mg base (L2.CX P w) k f fd d.ps (spOf K mg d.ps.length φ) ∧ PySem.W.keepIn K (.ref f) = true ∧ Binds K fd d.ps [] ∧ mg d.x = some (.ref f)
def CallsOk (P : Program) (w : World) (K : PySem.W.Frag) (mg : Mg) (base : Heap) (DL : List DefI) (k : Nat) (Φ : Ph) : Prop := ∀ (i : Nat) (d : DefI), DL[i]? = some d → CallOk P w K mg base k d (Φ i)
def BodyOk (P : Program) (w : World) (K : PySem.W.Frag) (mg : Mg) (base : Heap) (DL : List DefI) (d : DefI) : Prop := ∀ (k : Nat) (Φ : Ph), 3 ≤ k → CallsOk P w K mg base DL k Φ → ∀ (f : Addr) (cdv : Value) (A : Around) (outer : List PySem.Env) (s : Shared) (H : Hp) (E : XK),
  Room k (A.deeper (PyProof.Rows.envOfC d.qual (defScope d.st) s.heap.objs.size f cdv)) → ∃ T, VSs (cxOf (L2.CX P w) P w K mg base d.N d.qual (defScope d.st) f cdv A outer s H E) (defBody d.st) (d.b Φ) T
theorem all_ok {P : Program} {w : World} {K : PySem.W.Frag} {mg : Mg} {base : Heap} {DL : List DefI} (hh : ∀ (i : Nat) (d : DefI), DL[i]? = some d → Has K mg d) (hb : ∀ (i : Nat) (d : DefI), DL[i]? = some d → BodyOk P w K mg base DL d) : ∀ n, CallsOk P w K mg base DL (n + 3) (PhiN DL n)
  | 0 => fun i d hd => by
    obtain ⟨f, fd, F, B, m⟩ := (hh i d hd).fn
    exact ⟨f, fd, ⟨fun vs H Q E h => h.1, fun A outer s H args us vs Q E hr e0 hbi hv h => by
      obtain ⟨_, Z, ds, Gs, _, c⟩ := h
      exact c.elim⟩, F.kp, B, m⟩
  | n + 1 => fun i d hd => by
    obtain ⟨f, fd, F, B, m⟩ := (hh i d hd).fn
    have e : PhiN DL (n + 1) i = runB d.N.length (d.b (PhiN DL n)) := by
      funext ds
      simp only [PhiN, hd]
    refine ⟨f, fd, ?_, F.kp, B, m⟩
    rw [e]
    exact fnD F (hh i d hd).sc fun cdv A outer s H E hr => hb i d hd (n + 3) _ (Nat.le_add_left _ _) (all_ok hh hb n) f cdv A outer s H E hr
/-- as many arguments -/
def GLen (g : M (List Arg)) (n : Nat) : Prop := ∀ env as e', g env = .ok as e' → as.length = n
theorem glen_nil : GLen (pur []) 0 := fun env as e' h => by
  simp only [pur, Out.ok.injEq] at h
  rw [← h.1]; rfl
theorem glen_arg {f : M D} {g : M (List Arg)} {n : Nat} (h : GLen g n) : GLen (argM f g) (n + 1) := fun env as e' q => by
  unfold argM bnd at q
  split at q
  · rename_i d e1 _
    dsimp only at q
    split at q
    · rename_i ds e2 hq
      simp only [pur, Out.ok.injEq] at q
      rw [← q.1, List.length_cons, h _ _ _ hq]
    · cases q
    · cases q
  · cases q
  · cases q
theorem glen_nar {i : Nat} {g : M (List Arg)} {n : Nat} (h : GLen g n) : GLen (narM i g) (n + 1) := fun env as e' q => by
  unfold narM bnd at q
  split at q
  · dsimp only at q
    split at q
    · rename_i ds e2 hq
      simp only [pur, Out.ok.injEq] at q
      rw [← q.1, List.length_cons, h _ _ _ hq]
    · cases q
    · cases q
  · cases q
theorem ve_calld {X : Cx} {e : Expr} {es : List Expr} {p pos : Pos} {x : Str} {d : DefI} {k : Nat} {φ : List D → CRes} {g : M (List Arg)} {T : Nat → Bool} (C : CallOk X.prog X.w X.K X.mg X.base k d φ) (hx : d.x = x) (hr : Room k X.A) (hg : Gl X x) (ha : VG X (e :: es) g T) (ln : GLen g d.ps.length)
    (hdb : (x == ("__debug__" : Str)) = false := by decide) (he : starEach (e :: es) X.env = (false, eval e X.env) :: starEach es X.env := by rfl) (hpl : ∀ pos, (backTo pos (starEach es X.env)).any (·.1) = false := by intro _; rfl) :
    VE X (.Call (.Name x p) (e :: es) [] pos) (callM φ g) T none := by
  obtain ⟨f, fd, F, kp, B, m⟩ := C.ex
  subst hx
  exact ve_call F hr hg m kp B ha ln hdb he hpl
end VI
/-! V21: name op= e; name = [..]; the law's end -/
namespace VI
open PySem PySem.Spec L2

def augM (i : Nat) (g : D → D → Option D) (fe : M D) : M Fl := fun env0 => match env0.s[i]? with
  | some (some d) => if d.own then .err else (bnd fe fun y env => match g d y with
    | some z => if env.p[i]? = some true then .err else if i < env.s.length then .ok .nx (env.put i z) else .err
    | none => .err) env0
  | _ => .err
section
variable {X : Cx} {e : Expr} {p' pos : Pos} {f : M D} {T : Nat → Bool} {i : Nat} {x : Str} {s : Option Nat} {op : Operator} {g : D → D → Option D}
theorem vs_aug (h : OpD X (inplaceOp op) g) (hN : X.N.Nodup) (hi : X.N[i]? = some x) (hx : Loc X.env.scope x) (he : VE X e f T s) (hf : X.fn x = true ∨ X.env.scope.names.lookup x = some .local := by first | exact .inl rfl | exact .inr rfl | assumption) :
    VS X (.AugAssign (.Name x p') op e pos) (augM i g f) (tor T (T1' i)) := by
  obtain ⟨r, h1, h2⟩ := h
  refine ⟨fun W tk => ps_imp (ps_aug (ti := r) hN hi hx (he.run W tk) h1 hf) fun D0 σ H ⟨Z, env, Fs, S, c⟩ => ?_⟩
  unfold augM at c
  split at c
  · rename_i d hd
    split at c
    · exact c.elim
    · rename_i ho
      obtain ⟨v, hv, rv⟩ := S.rep i d hd
      have e0 := rv.unown (by simpa using ho)
      rw [e0] at rv
      refine ⟨v, hv, Z, env, Fs, S, ?_⟩
      unfold bnd at c
      cases q : f env with
      | err => rw [q] at c; exact c.elim
      | exc x fs e1 => rw [q] at c; exact fun cls dd H' Z' Fs' S t r => c cls dd σ H' Z' Fs' S (t.mono fun i q => (tor_sub i q).1) Pin.refl r
      | ok y e1 =>
        rw [q] at c
        dsimp only at c
        intro vy H1 Z1 Fs1 Fy S1 t1 ry py
        split at c
        · rename_i z hg
          split at c
          · exact c.elim
          · rename_i hp
            split at c
            · rename_i hl
              refine h2 S1.zs (rv.stay (t1.stay S) fun _ h => by simp at h) ry hg fun w H' Z' Fd al rw' => ?_
              have S2 := S1.alloc al
              have t2 : Tr T Z H env Fs Z' H' e1 Fs1 := t1.trans (Tr.alloc (T := T) S1 al) fun i q => ⟨q, q⟩
              have ap1 : ∀ a ∈ Fd, ∀ j, a ∉ Fs1 j := fun a ha j z => by
                obtain ⟨o, e⟩ := S1.tr z
                rw [(al.fd a ha).1] at e
                cases e
              have ap : ∀ a ∈ Fd, (∀ j, a ∉ Fs1 j) ∧ ¬ Z' a := fun a ha => ⟨ap1 a ha, (al.fd a ha).2⟩
              exact c _ H' Z' _ (store_ok S2 hl rw' al.nd ap) (t2.store fun a ha => .inr (t1.gr a (al.fd a ha).1)) (Pin.set (by rw [← t1.p]; exact hp))
            · exact c.elim
        · exact c.elim
  · exact c.elim
theorem oi_add : OpD X (inplaceOp .Add) addI := opd_int0 iop_add fun d1 d2 d e => by
  unfold addI at e
  split at e <;> cases e
  exact ⟨_, _, rfl, rfl, .inl ⟨_, rfl, rfl⟩⟩
theorem oi_sub : OpD X (inplaceOp .Sub) subD := opd_int0 iop_sub fun d1 d2 d e => by
  unfold subD at e
  split at e <;> cases e
  exact ⟨_, _, rfl, rfl, .inl ⟨_, rfl, rfl⟩⟩
end
section
variable {X : Cx} {elt tg iter : Expr} {ifs : List Expr} {scope : Scope} {own : List (Str × Nat)} {pos spos py : Pos} {fi : M (List D)} {gt : D → M Unit} {ft : M Bool} {fe : M D} {Ti Tg Tt Te : Nat → Bool} {srcs : List Nat} {i : Nat} {y : Str}
theorem vs_setlc (hc : X.calm = true) (hN : X.N.Nodup) (hy : X.N[i]? = some y) (hyl : X.env.scope.names.lookup y = some .local) (hsw : swapsWith (.ListComp elt [⟨tg, iter, ifs, 0⟩] scope pos) (some (.Name y py)) spos.line X.env = pure true)
    (ok : blkC X.N X.env.scope scope own = true) (hi : VI X tg iter fi Ti srcs)
    (hg : ∀ (s : Shared) (H : Hp) (C : Addr) (cl : List (Str × Addr)) (fp : List Addr), VGt (X.blk s H scope (compEnvC scope cl C X.env) fp) tg gt Tg)
    (ht : ∀ (s : Shared) (H : Hp) (C : Addr) (cl : List (Str × Addr)) (fp : List Addr), VTs (X.blk s H scope (compEnvC scope cl C X.env) fp) ifs ft Tt)
    (he : ∀ (s : Shared) (H : Hp) (C : Addr) (cl : List (Str × Addr)) (fp : List Addr), VE (X.blk s H scope (compEnvC scope cl C X.env) fp) elt fe Te none)
    (hT : ∀ j, Tg j = true → j ∈ own.map (·.2)) (hu : ∀ i ∈ srcs, i ∉ own.map (·.2) ∧ Tt i = false ∧ Te i = false) (hs : ∀ x, foldedSetIterable iter X.env x = pure x := by intro _; rfl) :
    VS X (.Assign [.Name y py] (.ListComp elt [⟨tg, iter, ifs, 0⟩] scope pos) spos) (asgM i (compM (own.map (·.2)) fi gt ft fe)) (tor (tor Ti (tor Tt Te)) (T1' i)) := by
  refine ⟨fun W tk => ps_imp (ps_setLc (wi := tI X.K X.mg fi Ti srcs W) (g := tGt X.K X.mg gt Tg) (tt := tT X.K X.mg ft Tt (fun _ _ _ _ => False)) (te := tE X.K X.mg fe Te none (fun _ _ _ _ => False)) hc hN hy hyl hsw (hi.run W tk) (blkOk_by ok) (fun s H C cl fp => (hg s H C cl fp).run) (fun s H C cl fp => (ht s H C cl fp).run _ takes0) (fun s H C cl fp => (he s H C cl fp).run _ takes0) hs) fun D0 σ H ⟨Z, env, Fs, S, c⟩ => ?_⟩
  refine comp_read hT hu ⟨Z, env, Fs, S, ?_⟩
  unfold asgM bnd at c
  cases q : compM (own.map (·.2)) fi gt ft fe env with
  | err => rw [q] at c; exact c.elim
  | exc x fs e1 => rw [q] at c; exact fun cls dd H' Z' Fs' S t r => c cls dd σ H' Z' Fs' S (t.mono fun i q => (tor_sub i q).1) Pin.refl r
  | ok d e1 =>
    rw [q] at c
    dsimp only at c
    intro v H1 Z1 Fs1 F1 S1 t1 r1 p1
    split at c
    · exact c.elim
    · rename_i hp
      split at c
      · rename_i hl
        exact c _ H1 Z1 (fset Fs1 i F1) (store_ok S1 hl r1 p1.1 fun a ha => ⟨(p1.2 a ha).1, (p1.2 a ha).2.1⟩) (t1.store fun a ha => (p1.2 a ha).2.2) (Pin.set (by rw [← t1.p]; exact hp))
      · exact c.elim
end

/-! ### the law -/
def spLaw (K : PySem.W.Frag) : Sp := fun vs H Q _ => ∃ (a : Addr) (ns : List Int), vs = [.ref a] ∧ SqL K H a (ns.map V.int) ∧ ns.length ≤ 63 ∧ ∀ H', Q (.bl true) H'
def scriptD (ns : List Int) : D := .lst false (ns.map D.int)
theorem reps_ints {K : PySem.W.Frag} {mg : Mg} {Z : Addr → Prop} {H : Hp} : ∀ ns : List Int, Reps K mg Z H (ns.map D.int) (ns.map V.int) []
  | [] => Reps.nil
  | n :: ns => Reps.cons (F := []) (by simp [Rep]) (reps_ints ns)
theorem law_sp {K : PySem.W.Frag} {mg : Mg} {φ : List D → CRes} (h : ∀ ns : List Int, ns.length ≤ 63 → ∃ fin, φ [scriptD ns] = .ok (.bl true) fin) (vs : List V) (H : Hp) (Q : VK) (E : XK) (q : spLaw K vs H Q E) : spOf K mg 1 φ vs H Q E := by
  obtain ⟨a, ns, rfl, hs, hl, k⟩ := q
  obtain ⟨fin, e⟩ := h ns hl
  refine ⟨rfl, fun b => b = a ∧ ∃ o, H b = some o, [scriptD ns], fun _ => [], ⟨rfl, fun i d e => ?_, fun _ _ => rfl, fun _ => List.nodup_nil, fun _ _ _ _ h => by simp at h, fun _ _ h => by simp at h, fun b hb => hb.2⟩, ?_⟩
  · cases i with
    | zero =>
      simp only [envOf, List.map_cons, List.map_nil, List.getElem?_cons_zero, Option.some.injEq] at e
      subst e
      refine ⟨.ref a, rfl, ?_⟩
      simp only [scriptD, Rep]
      refine ⟨a, _, rfl, ?_, reps_ints ns, trivial⟩
      rcases hs with hs | hs
      · refine .inl ⟨⟨rfl, ?_⟩, hs⟩
        rcases hs with hs | ⟨o, hs⟩
        · exact ⟨_, hs⟩
        · exact ⟨_, hs⟩
      · exact .inr hs
    | succ i => simp [envOf] at e
  · rw [e]
    exact fun v H' Z' Gs' Fd S t r p => by
      simp only [Rep] at r
      rw [r.1]
      exact k H'
theorem cx_no {P : Program} {w : World} (H : Hp) (s : Shared) (e : Value) (s' : Shared) (h : L2.CX P w [] H s (fun _ _ _ => False) e s') : False := by
  obtain ⟨_, _, _, _, _, _, _, _, _, _, _, _, z⟩ := h
  exact z
end VI
/-! V22: the rules in short, for the printed bodies -/
namespace VI
open PySem PySem.Spec L2
section
variable {X : Cx} {e a b c o k0 tg iter elt : Expr} {pos p p' pt apos cpos spos py px : Pos} {f fa fb fe fk : M D} {ga gb gc : M Bool} {T Ta Tb Tc Te Tp Tk Tg Ti Tt : Nat → Bool} {s sa sb sk : Option Nat} {x y z : Str} {fp : M (List Stp)} {es : List Expr} {fl : M (List D)}
theorem ev (i : Nat) (hN : X.N[i]? = some x := by rfl) (hv : Vis X.env.scope x := by first | exact Or.inl rfl | exact Or.inr (Or.inl rfl) | exact Or.inr (Or.inr rfl)) (hd : (x == ("__debug__" : Str)) = false := by decide) (hcd : (x == ("__classdict__" : Str)) = false := by decide) : VE X (.Name x pos) (varM i) T0 (some i) := ve_var hN hv hd hcd
theorem ek (i : Nat) (hN : X.N[i]? = some x := by rfl) (hv : Vis X.env.scope x := by first | exact Or.inl rfl | exact Or.inr (Or.inl rfl) | exact Or.inr (Or.inr rfl)) (hd : (x == ("__debug__" : Str)) = false := by decide) (hcd : (x == ("__classdict__" : Str)) = false := by decide) : VE X (.Name x pos) (keepM i) (T1' i) none := ve_keep hN hv hd hcd
theorem em (i : Nat) (hN : X.N[i]? = some x := by rfl) (hv : Vis X.env.scope x := by first | exact Or.inl rfl | exact Or.inr (Or.inl rfl) | exact Or.inr (Or.inr rfl)) (hd : (x == ("__debug__" : Str)) = false := by decide) (hcd : (x == ("__classdict__" : Str)) = false := by decide) : VE X (.Name x pos) (moveM i) (T1' i) none := ve_move hN hv hd hcd
theorem ep (i : Nat) (hN : X.N[i]? = some x := by rfl) (hv : Vis X.env.scope x := by first | exact Or.inl rfl | exact Or.inr (Or.inl rfl) | exact Or.inr (Or.inr rfl)) (hd : (x == ("__debug__" : Str)) = false := by decide) (hcd : (x == ("__classdict__" : Str)) = false := by decide) : VPa X (.Name x pos) i (rootM i) T0 := vp_name hN hv hd hcd
theorem gn (i : Nat) {g : M (List Arg)} (hb : VG X es g Tb) (hN : X.N[i]? = some x := by rfl) (hv : Vis X.env.scope x := by first | exact Or.inl rfl | exact Or.inr (Or.inl rfl) | exact Or.inr (Or.inr rfl)) (hd : (x == ("__debug__" : Str)) = false := by decide) (hcd : (x == ("__classdict__" : Str)) = false := by decide)
    (hs : starEach (.Name x pos :: es) X.env = (false, eval (.Name x pos) X.env) :: starEach es X.env := by rfl) : VG X (.Name x pos :: es) (narM i g) (tor (T1' i) Tb) := vg_name hN hv hb hd hcd hs
theorem ga1 {g : M (List Arg)} (ha : VE X a fa Ta none) (hb : VG X es g Tb) (hs : starEach (a :: es) X.env = (false, eval a X.env) :: starEach es X.env := by rfl) : VG X (a :: es) (argM fa g) (tor Ta Tb) := vg_cons ha hb hs
theorem ebin {op : Operator} {g : D → D → Option D} (k : Bool) (h : OpD X (binaryOp op) g) (ha : VE X a fa Ta sa) (hb : VE X b fb Tb sb) (hk : k = true → ∀ i, sa = some i → Tb i = false := by first | (intro h; exact Bool.noConfusion h) | (intro _ i h; cases h; rfl) | (intro _ i h; cases h)) :
    VE X (.BinOp a op b pos) (twoM k fa fb g) (tor Ta Tb) none := ve_bin k h ha hb hk
theorem ecmp {op : CmpOp} {g : D → D → Option D} (k : Bool) (h : OpD X (compareOp op) g) (ha : VE X a fa Ta sa) (hb : VE X b fb Tb sb) (hk : k = true → ∀ i, sa = some i → Tb i = false := by first | (intro h; exact Bool.noConfusion h) | (intro _ i h; cases h; rfl) | (intro _ i h; cases h)) (hm : behindInMarks op b = false := by first | exact L2.nomark _ | rfl) :
    VE X (.Compare a [op] [b] pos) (twoM k fa fb g) (tor Ta Tb) none := ve_cmp k h ha hb hk hm
theorem tcmp {op : CmpOp} {g : D → D → Option D} (k : Bool) (h : OpD X (compareOp op) g) (ha : VE X a fa Ta sa) (hb : VE X b fb Tb sb) (hk : k = true → ∀ i, sa = some i → Tb i = false := by first | (intro h; exact Bool.noConfusion h) | (intro _ i h; cases h; rfl) | (intro _ i h; cases h)) (hm : behindInMarks op b = false := by first | exact L2.nomark _ | rfl) :
    VT X (.Compare a [op] [b] pos) (boolM (twoM k fa fb g)) (tor Ta Tb) := vt_cmp k h ha hb hk hm
theorem eix (k : Bool) (ha : VE X a fa Ta sa) (hb : VE X b fb Tb sb) (hk : k = true → ∀ i, sa = some i → Tb i = false := by first | (intro h; exact Bool.noConfusion h) | (intro _ i h; cases h; rfl) | (intro _ i h; cases h)) (hs : PlainIx b := by intro _ _; rfl) : VE X (.Subscript a b pos) (twoM k fa fb ixD) (tor Ta Tb) none := ve_ix k xd_seq ha hb hk hs
theorem pix {i : Nat} (hu : X.A.units + 1 < cLine) (hP : VPa X e i fp Tp) (hk : VE X k0 fk Tk sk) (ht : Tk i = false := by rfl) (hs : PlainIx k0 := by intro _ _; rfl) : VPa X (.Subscript e k0 pos) i (pixM i fp fk) (tor Tp Tk) := vp_ix hu hP hk ht hs
theorem sasg {i : Nat} (hN : X.N.Nodup) (he : VE X e f T none) (hi : X.N[i]? = some x := by rfl) (hx : Loc X.env.scope x := by first | exact Or.inl rfl | exact Or.inr rfl) (hs : swapsWith e (some (.Name x p')) pos.line X.env = pure false := by rfl) (hf : X.fn x = true ∨ X.env.scope.names.lookup x = some .local := by first | exact .inl rfl | exact .inr rfl) :
    VS X (.Assign [.Name x p'] e pos) (asgM i f) (tor T (T1' i)) := vs_asg hN hi hx he hs hf
theorem gnm {i : Nat} (hN : X.N.Nodup) (hi : X.N[i]? = some x := by rfl) (hx : Loc X.env.scope x := by first | exact Or.inl rfl | exact Or.inr rfl) (hf : X.fn x = true ∨ X.env.scope.names.lookup x = some .local := by first | exact .inl rfl | exact .inr rfl) : VGt X (.Name x pos) (gnM i) (T1' i) := vg_nm hN hi hx hf
theorem sfor {fi : M (List D)} {gt : D → M Unit} {fb' : M Fl} {srcs : List Nat} {body : List Stmt} (hi : VI X tg iter fi Ti srcs) (hg : VGt X tg gt Tg) (hb : VSs X body fb' Tb) (hp : ∀ W, Takes X W → PassesOwn (model X.prog X.w) X.A X.env X.xe) (hc : X.calm = true := by rfl) (hu : ∀ i ∈ srcs, tor Tg Tb i = false := by first | (intro i h; exact absurd h List.not_mem_nil) | (intro i h; have e := List.mem_singleton.mp h; subst e; rfl) | (intro i h; simp at h; rcases h with rfl | rfl <;> rfl)) (hs : ∀ x, foldedSetIterable iter X.env x = pure x := by intro _; rfl) :
    VS X (.For tg iter body [] pos) (forS fi gt fb') (tor Ti (tor Tg Tb)) := vs_for hp hc hi hg hb hu hs
theorem elc {fi : M (List D)} {gt : D → M Unit} {ft : M Bool} {ifs : List Expr} {scope : Scope} {srcs : List Nat} (own : List (Str × Nat)) (hN : X.N.Nodup) (hi : VI X tg iter fi Ti srcs)
    (hg : ∀ (s : Shared) (H : Hp) (C : Addr) (cl : List (Str × Addr)) (fp : List Addr), VGt (X.blk s H scope (compEnvC scope cl C X.env) fp) tg gt Tg)
    (ht : ∀ (s : Shared) (H : Hp) (C : Addr) (cl : List (Str × Addr)) (fp : List Addr), VTs (X.blk s H scope (compEnvC scope cl C X.env) fp) ifs ft Tt)
    (he : ∀ (s : Shared) (H : Hp) (C : Addr) (cl : List (Str × Addr)) (fp : List Addr), VE (X.blk s H scope (compEnvC scope cl C X.env) fp) elt fe Te none)
    (ok : blkC X.N X.env.scope scope own = true := by first | rfl | kernel_rfl) (hT : ∀ j, Tg j = true → j ∈ own.map (·.2) := by intro j h; simp at h; simp [h]) (hu : ∀ i ∈ srcs, i ∉ own.map (·.2) ∧ Tt i = false ∧ Te i = false := by first | (intro i h; exact absurd h List.not_mem_nil) | (intro i h; have e := List.mem_singleton.mp h; subst e; exact ⟨by decide, rfl, rfl⟩) | (intro i h; simp at h; rcases h with rfl | rfl <;> exact ⟨by decide, rfl, rfl⟩)) (hc : X.calm = true := by rfl) (hs : ∀ x, foldedSetIterable iter X.env x = pure x := by intro _; rfl) :
    VE X (.ListComp elt [⟨tg, iter, ifs, 0⟩] scope pos) (compM (own.map (·.2)) fi gt ft fe) (tor Ti (tor Tt Te)) none := ve_lc hc hN ok hi hg ht he hT hu hs
theorem slc {i : Nat} {fi : M (List D)} {gt : D → M Unit} {ft : M Bool} {ifs : List Expr} {scope : Scope} {srcs : List Nat} (own : List (Str × Nat)) (hN : X.N.Nodup) (hi : VI X tg iter fi Ti srcs)
    (hg : ∀ (s : Shared) (H : Hp) (C : Addr) (cl : List (Str × Addr)) (fp : List Addr), VGt (X.blk s H scope (compEnvC scope cl C X.env) fp) tg gt Tg)
    (ht : ∀ (s : Shared) (H : Hp) (C : Addr) (cl : List (Str × Addr)) (fp : List Addr), VTs (X.blk s H scope (compEnvC scope cl C X.env) fp) ifs ft Tt)
    (he : ∀ (s : Shared) (H : Hp) (C : Addr) (cl : List (Str × Addr)) (fp : List Addr), VE (X.blk s H scope (compEnvC scope cl C X.env) fp) elt fe Te none)
    (hy : X.N[i]? = some y := by rfl) (hyl : X.env.scope.names.lookup y = some .local := by rfl) (hsw : swapsWith (.ListComp elt [⟨tg, iter, ifs, 0⟩] scope pos) (some (.Name y py)) spos.line X.env = pure true := by exact L2.sw_true rfl rfl rfl (by decide +kernel))
    (ok : blkC X.N X.env.scope scope own = true := by first | rfl | kernel_rfl) (hT : ∀ j, Tg j = true → j ∈ own.map (·.2) := by intro j h; simp at h; simp [h]) (hu : ∀ i ∈ srcs, i ∉ own.map (·.2) ∧ Tt i = false ∧ Te i = false := by first | (intro i h; exact absurd h List.not_mem_nil) | (intro i h; have e := List.mem_singleton.mp h; subst e; exact ⟨by decide, rfl, rfl⟩) | (intro i h; simp at h; rcases h with rfl | rfl <;> exact ⟨by decide, rfl, rfl⟩)) (hc : X.calm = true := by rfl) (hs : ∀ x, foldedSetIterable iter X.env x = pure x := by intro _; rfl) :
    VS X (.Assign [.Name y py] (.ListComp elt [⟨tg, iter, ifs, 0⟩] scope pos) spos) (asgM i (compM (own.map (·.2)) fi gt ft fe)) (tor (tor Ti (tor Tt Te)) (T1' i)) := vs_setlc hc hN hy hyl hsw ok hi hg ht he hT hu hs
theorem ecall {d : DefI} {k : Nat} {φ : List D → CRes} {g : M (List Arg)} (C : CallOk X.prog X.w X.K X.mg X.base k d φ) (hr : Room k X.A) (ha : VG X (e :: es) g T) (ln : GLen g d.ps.length) (hg : Gl X d.x := by rfl)
    (hdb : (d.x == ("__debug__" : Str)) = false := by decide) (he : starEach (e :: es) X.env = (false, eval e X.env) :: starEach es X.env := by rfl) (hpl : ∀ pos, (backTo pos (starEach es X.env)).any (·.1) = false := by intro _; rfl) :
    VE X (.Call (.Name d.x p) (e :: es) [] pos) (callM φ g) T none := ve_calld C rfl hr hg ha ln hdb he hpl
theorem eb1 {id : String} {g : D → Option D} (h : Call1D X (.builtin id) g) (hm : X.mg x = none) (hv : bootBuiltins x = some (.builtin id)) (ha : VE X a fa Ta sa) (hg : Gl X x := by rfl) (he : starEach [a] X.env = (false, eval a X.env) :: starEach [] X.env := by rfl) (hn : x ≠ "__name__" := by decide) (hdb : (x == ("__debug__" : Str)) = false := by decide)
    (hpl : ∀ pos, (backTo pos (starEach ([] : List Expr) X.env)).any (·.1) = false := by intro _; rfl) : VE X (.Call (.Name x p) [a] [] pos) (oneM fa g) Ta none := ve_b1 h hg hm hv ha he hn hdb hpl
theorem et1 {t : String} {g : D → Option D} (h : Call1D X (.type t) g) (hm : X.mg x = none) (hv : bootBuiltins x = some (.type t)) (ha : VE X a fa Ta sa) (hg : Gl X x := by rfl) (he : starEach [a] X.env = (false, eval a X.env) :: starEach [] X.env := by rfl) (hn : x ≠ "__name__" := by decide) (hdb : (x == ("__debug__" : Str)) = false := by decide)
    (hpl : ∀ pos, (backTo pos (starEach ([] : List Expr) X.env)).any (·.1) = false := by intro _; rfl) : VE X (.Call (.Name x p) [a] [] pos) (oneM fa g) Ta none := ve_t1 h hg hm hv ha he hn hdb hpl
theorem irange1 (hm : X.mg "range" = none) (ha : VE X a fa Ta sa) (hg : Gl X "range" := by rfl) (hs : starEach [a] X.env = [(false, eval a X.env)] := by rfl) : VI X tg (.Call (.Name "range" p) [a] [] pos) (range1I fa) Ta [] := vi_range1 hg hm ha hs
theorem irange2 (hm : X.mg "range" = none) (ha : VE X a fa Ta sa) (hb : VE X b fb Tb sb) (hg : Gl X "range" := by rfl) (hs : starEach [a, b] X.env = [(false, eval a X.env), (false, eval b X.env)] := by rfl) (hs2 : starEach [b] X.env = [(false, eval b X.env)] := by rfl) : VI X tg (.Call (.Name "range" p) [a, b] [] pos) (range2I fa fb) (tor Ta Tb) [] := vi_range2 hg hm ha hb hs hs2
theorem ienum {kk : Nat} {tpos : Pos} {elts : List Expr} (hm : X.mg "enumerate" = none) (ha : VE X a f T s) (hg : Gl X "enumerate" := by rfl) (hs : starEach [a] X.env = [(false, eval a X.env)] := by rfl) : VI X (.Tuple elts kk tpos) (.Call (.Name "enumerate" p) [a] [] pos) (enumI f) T s.toList := vi_enum hg hm ha hs
end
end VI
/-! V23: own exceptions with an __init__ of their own -/
namespace VI
open PySem PySem.Spec L2
theorem lt150 {A : Around} {k : Nat} (hr : Room k A) : A.units + 150 < cLine := by have := hr.un; omega
section
variable {X : Cx} {o e : Expr} {es : List Expr} {to te : TE} {ta : TA} {f x : Str} {p p' p1 p2 pos : Pos}
/-- what an own class without own __init__ must say, so that C.__init__ is ValueError's -/
structure HeC (K : PySem.W.Frag) (C : Addr) : Prop where
  sg : PySem.W.specialIn K (.ref C) "__getattribute__" = some (some (.builtin "type.__getattribute__"))
  rd : PySem.W.readsIn K C (.type "type") = true
  vv : PySem.W.findCls K (.ref C) (.type "type") "__init__" = some (.val (.builtin "ValueError.__init__"))
theorem pe_heinit {C0 : Addr} {pl : Sem Bool} (T0 : HeC X.K C0) (hg : Gl X x) (hm : X.mg x = some (.ref C0)) (ha : PA X (e :: es) ta) (hdb : (x == ("__debug__" : Str)) = false)
    (hc : eval (.Call (.Attribute (.Name x p1) "__init__" p2) (e :: es) [] pos) X.env = (do
      let ov ← eval (.Name x p1) X.env
      standAt p2.atName
      let (f, first) ← holding [ov] (getMethod ov "__init__" pl)
      callWith pos f first (backTo pos (starEach (e :: es) X.env)) (backToKw pos (keywordEach [] X.env))) := by rfl)
    (he : starEach (e :: es) X.env = (false, eval e X.env) :: starEach es X.env := by rfl) (hpl : (backTo pos (starEach es X.env)).any (·.1) = false := by rfl) :
    PE X (.Call (.Attribute (.Name x p1) "__init__" p2) (e :: es) [] pos) (tVeI X.K ta) := by
  refine ⟨fun pins s σ H Q I h => ?_⟩
  refine PySem.W.methodCall_KW (ld_glob I hg hm ?_ hdb) hc
  refine PySem.W.method_cls I.kIn T0.sg ?_
  refine PySem.W.cls_value I.kIn T0.rd T0.vv (by decide +kernel) ?_
  show wpAny _ _ (callWith pos (Value.builtin "ValueError.__init__") [] (backTo pos (starEach (e :: es) X.env)) []) _ _ _
  refine PyProof.Rows.callWith_method1 (thn (ha.run pos pins _ σ H _ (I.tok _) h) fun us s1 ⟨vs, H1, I1, r1, a, C, ws, ev, hl, T, ea, q⟩ => ?_) he hpl
  subst ev
  cases r1 with
  | @cons _ u0 _ ur ra rw' =>
    obtain rfl : u0 = Value.ref a := ra
    have hlen : ur.length ≤ sizeLine := by
      rw [← Paired.length rw', sizeLine_eq]
      omega
    exact oinit_ok T I1 ea hlen fun s' J => ⟨.non, H1, J, rfl, q⟩
/-- the promise of an __init__ that calls the base's and keeps its one argument -/
def spBT (C : Addr) (f : Str) : Sp := fun vs H Q _ => ∃ a y, vs = [.ref a, y] ∧ H a = some (exo a C none) ∧ ∀ dx, H dx = none → dx ≠ a → Q .non (upd (upd H dx (exd dx [(f, y)])) a (exo a C (some dx)))
/-- C(e), as a value -/
def tMkV (C : Addr) (sp : Sp) (ta : TA) : TE := fun σ H Q => ta σ H fun vs H1 => vs.length ≤ 1000 ∧ ∀ a, H1 a = none → sp (.ref a :: vs) (upd H1 a (exo a C none))
  (fun v H2 => v = .non ∧ ∃ (d : Addr) (fs : List (Str × V)), H2 a = some (exo a C (some d)) ∧ H2 d = some (exd d fs) ∧ d ≠ a ∧ Q (.ref a) (upd (upd H2 d (.xd fs)) a (ExO (.ref C) (some d) a))) (fun _ _ _ => False)
theorem pe_mkv {CX : CXT} {C fI : Addr} {k : Nat} {fd : FuncData} {ps : List Str} {sp : Sp} (T : OexC X.K C) (iC : PySem.W.findIn X.K (.ref C) "__init__" = some (some (.ref fI))) (tI : PySem.W.typeIn X.K (.ref fI) = some (.type "function"))
    (F1 : FnOk X.prog X.w X.K X.mg X.base CX k fI fd ps sp) (hr : Room (k + 1) X.A) (hb : Binds X.K fd ps []) (hx : Passes CX X (fun _ _ _ => False)) (hg : Gl X x) (hm : X.mg x = some (.ref C)) (ha : PA X (e :: es) ta)
    (hdb : (x == ("__debug__" : Str)) = false := by decide) (he : starEach (e :: es) X.env = (false, eval e X.env) :: starEach es X.env := by rfl) (hpl : (backTo pos (starEach es X.env)).any (·.1) = false := by rfl) :
    PE X (.Call (.Name x p) (e :: es) [] pos) (tMkV C sp ta) := by
  refine ⟨fun pins s σ H Q I h => ?_⟩
  obtain ⟨nm, q, N, bs, bm, sn, sub, ab, col, dd, k0, k1, k2, k3, k5, hC, hbm⟩ := T.cls
  refine wpAny_Call_Name_kw (ld_glob I hg hm ?_ hdb)
  refine PySem.W.callWith_K (h₀ := X.base) I.ok.mod.kin T.kC (thn (ha.run pos pins s σ H _ I h) fun us s1 ⟨vs, H1, I1, r1, hz, q1⟩ => ⟨I1.kIn, ?_⟩) he hpl
  show wpAny _ _ (call (.ref C) us) _ _ _
  obtain ⟨hp, g, dr, tk, os⟩ := s1
  have hsz : hp.objs.size ≤ hp.objs.size + 1 := Nat.le_succ _
  have hn : H1 (hp.objs.size + 1) = none := I1.hok.fresh hsz
  have hq := q1 (hp.objs.size + 1) hn
  have kk : ∀ b o, hp.get? b = some o → ((hp.push (PySem.W.kdv_tup us)).push (PySem.HandSPX.excO C hp.objs.size)).get? b = some o := fun b o e => Heap.get?_push_of_some _ (Heap.get?_push_of_some _ e)
  have hget : ((hp.push (PySem.W.kdv_tup us)).push (PySem.HandSPX.excO C hp.objs.size)).get? (hp.objs.size + 1) = some (PySem.HandSPX.excO C hp.objs.size) := by heap_get
  have I2 : L2.Inv X pins σ (upd H1 (hp.objs.size + 1) (exo (hp.objs.size + 1) C none)) ⟨(hp.push (PySem.W.kdv_tup us)).push (PySem.HandSPX.excO C hp.objs.size), g, dr, tk, os⟩ :=
    I1.laid (t' := tk) (a := hp.objs.size + 1) (o := exo (hp.objs.size + 1) C none) (h' := (hp.push (PySem.W.kdv_tup us)).push (PySem.HandSPX.excO C hp.objs.size)) kk hsz (exo_ok hget)
  have r2 : Vals (V.ref (hp.objs.size + 1) :: vs) (Value.ref (hp.objs.size + 1) :: us) := .cons rfl r1
  have hl : (Value.ref (hp.objs.size + 1) :: us).length = ps.length := by
    have e := r2.length
    rw [F1.len _ _ _ _ hq] at e
    exact e.symm
  have hus : us.length ≤ sizeLine := by
    rw [← Paired.length r1, sizeLine_eq]
    omega
  have hbb := hb _ (Value.ref (hp.objs.size + 1) :: us) I2.kIn (by simpa using hl)
  rw [List.append_nil] at hbb
  refine wpAny_call (PySem.HandSPX.call_own F.excBase_ValueError (fun Y => PySem.HandSPX.refsVE_contains Y bm hbm) (I1.kIn _ _ hC) (PySem.W.looks_findIn I1.kIn iC) (fun self => PySem.W.bind_fn I1.kIn self tI) hus
    (codeAny_mono (F1.run _ X.stack _ _ ⟨Value.ref (hp.objs.size + 1) :: us, []⟩ (Value.ref (hp.objs.size + 1) :: us) _ _ (fun _ _ _ => False) (hr.make C us []) (I2.env0.make C us []) hbb r2 hq) fun r s' hq' => ?_))
  cases r with
  | error er => exact hx pins σ _ _ er s' I2 hq'
  | ok fl =>
    cases fl with
    | ret u =>
      obtain ⟨v, H2, os2, bare2, un2, hok2, rv, ev, d, fs, ea, ed, hda, q2⟩ := hq'
      subst ev
      have J : L2.Inv X pins σ H2 s' := I2.call' (ch := []) os2 un2 hok2 bare2 (fun b z => absurd z (by simp))
      obtain ⟨t0, hoe⟩ := exo_at J.hok ea
      obtain ⟨mA, hns, rel⟩ := exd_at J.hok ed
      have J2 : L2.Inv X pins σ (upd H2 d (.xd fs)) s' := by
        have := J.write (t' := s'.toks) (x := d) (e := d) (o := .xd fs) (h' := s'.heap) (by rw [ed]; exact True.intro) (.inl rfl) (fun _ _ _ z => z) (by obtain ⟨od, es, ep, e1, _⟩ := hns; exact ⟨_, e1⟩) ⟨mA, hns, rel⟩
        exact this
      have J3 : L2.Inv X pins σ (upd (upd H2 d (.xd fs)) (hp.objs.size + 1) (ExO (.ref C) (some d) (hp.objs.size + 1))) s' := by
        have := J2.write (t' := s'.toks) (x := hp.objs.size + 1) (e := hp.objs.size + 1) (o := ExO (.ref C) (some d) (hp.objs.size + 1)) (h' := s'.heap) (by rw [upd_ne (Ne.symm hda), ea]; exact True.intro) (.inl rfl) (fun _ _ _ z => z) ⟨_, hoe⟩ (vexO_ok hoe ⟨rfl, rfl⟩ rfl)
        exact this
      exact ⟨rv, V.ref (hp.objs.size + 1), _, J3, rfl, q2⟩
    | next => exact False.elim hq'
    | brk => exact False.elim hq'
    | cont => exact False.elim hq'
end
structure MkxOk (P : Program) (w : World) (K : PySem.W.Frag) (mg : Mg) (base : Heap) (x f : Str) : Prop where
  ex : ∃ (C fI : Addr) (fd : FuncData) (y : Str), OexC K C ∧ PySem.W.findIn K (.ref C) "__init__" = some (some (.ref fI)) ∧ PySem.W.typeIn K (.ref fI) = some (.type "function") ∧ FnOk P w K mg base (L2.CX P w) 1 fI fd [("self" : Str), y] (spBT C f) ∧ Binds K fd [("self" : Str), y] [] ∧ mg x = some (.ref C)
def mkxM (c f : Str) (fa : M D) : M D := bnd fa fun d => if d.own then bad else pur (.exc c [(f, d)])
def xfD (f : Str) : D → Option D
  | .exc _ fs => match fAt fs f with
    | some d => if d.own then none else some d
    | none => none
  | _ => none
section
variable {X : Cx} {e : Expr} {p pos : Pos} {fa : M D} {Ta : Nat → Bool} {sa : Option Nat} {x f n : Str}
theorem ve_mkx (M : MkxOk X.prog X.w X.K X.mg X.base x f) (hr : Room 2 X.A) (he : VE X e fa Ta none) (hg : Gl X x := by rfl) (hdb : (x == ("__debug__" : Str)) = false := by decide) (hs : starEach (e :: []) X.env = (false, eval e X.env) :: starEach [] X.env := by rfl) (hpl : (backTo pos (starEach [] X.env)).any (·.1) = false := by rfl)
    (hx : Passes (L2.CX X.prog X.w) X (fun _ _ _ => False) := by exact L2.passL) : VE X (.Call (.Name x p) [e] [] pos) (mkxM x f fa) Ta none := by
  obtain ⟨C, fI, fd, y, T, iC, tI, F1, B, m⟩ := M.ex
  refine ⟨fun W tk => pe_imp (pe_mkv T iC tI F1 hr B hx hg m (pa_cons (he.run W tk) pa_nil hs) hdb hs hpl) fun σ H Q ⟨Z, env, Fs, S, c⟩ => ⟨Z, env, Fs, S, ?_⟩⟩
  unfold mkxM bnd at c
  cases q : fa env with
  | err => rw [q] at c; exact c.elim
  | exc z fs e1 => rw [q] at c; exact c
  | ok d e1 =>
    rw [q] at c
    dsimp only at c
    intro v H1 Z1 Fs1 F1' S1 t1 r1 p1
    split at c
    · exact c.elim
    · rename_i ho
      have e0 := r1.unown (by simpa using ho)
      rw [e0] at r1
      have c := Cont.step (T2 := T0) c t1 fun i q => ⟨q, rfl⟩
      refine ⟨by simp, fun a ha => ⟨a, v, rfl, upd_same, fun dx hdx hne => ⟨rfl, dx, _, upd_same, (by rw [upd_ne hne, upd_same]), hne, ?_⟩⟩⟩
      have hdx1 : H1 dx = none := by rw [upd_ne hne] at hdx; exact hdx
      have ot : ∀ b, b ≠ a → b ≠ dx → (upd (upd (upd (upd (upd H1 a (exo a C none)) dx (exd dx [(f, v)])) a (exo a C (some dx))) dx (.xd [(f, v)])) a (ExO (.ref C) (some dx) a)) b = H1 b := fun b h1 h2 => by
        rw [upd_ne h1, upd_ne h2, upd_ne h1, upd_ne h2, upd_ne h1]
      have ea : (upd (upd (upd (upd (upd H1 a (exo a C none)) dx (exd dx [(f, v)])) a (exo a C (some dx))) dx (.xd [(f, v)])) a (ExO (.ref C) (some dx) a)) a = some (ExO (.ref C) (some dx) a) := upd_same
      have ed : (upd (upd (upd (upd (upd H1 a (exo a C none)) dx (exd dx [(f, v)])) a (exo a C (some dx))) dx (.xd [(f, v)])) a (ExO (.ref C) (some dx) a)) dx = some (.xd [(f, v)]) := by rw [upd_ne hne, upd_same]
      generalize (upd (upd (upd (upd (upd H1 a (exo a C none)) dx (exd dx [(f, v)])) a (exo a C (some dx))) dx (.xd [(f, v)])) a (ExO (.ref C) (some dx) a)) = H3 at ot ea ed
      have al : Alloc Z1 H1 (fun b => Z1 b ∨ b = a ∨ b = dx) H3 [] := ⟨fun b o h => by rw [ot b (ne_of_none h ha) (ne_of_none h hdx1)]; exact h, fun b h => .inl h, fun b h => by
        rcases h with h | rfl | rfl
        · exact .inl h
        · exact .inr ⟨ha, _, ea⟩
        · exact .inr ⟨hdx1, _, ed⟩, List.nodup_nil, fun _ h => by simp at h⟩
      refine Cont.ret S1 c al ?_
      simp only [Rep]
      refine ⟨a, C, some dx, [v], rfl, m, ea, .inr (.inl rfl), trivial, ?_, .inr ⟨dx, rfl, ed, .inr (.inr rfl)⟩⟩
      simp only [Repf]
      exact ⟨v, [], [], [], rfl, r1.stay (al.stay S1.zs) (fun _ h => by simp at h), ⟨rfl, rfl⟩, rfl⟩
/-- e.n of an exception that is held as a value -/
theorem repf_at {K : PySem.W.Frag} {mg : Mg} {Z : Addr → Prop} {H : Hp} : ∀ {xs : List (Str × D)} {vs : List V} {k : Str} {x : D}, Repf K mg Z H xs vs [] → fAt xs k = some x → ∃ v, ((xs.map (·.1)).zip vs).lookup k = some v ∧ Rep K mg Z H x v [] := fun {xs vs k x} r h => by
  obtain ⟨v, F1, h1, h2, h3, _⟩ := Repf.focus r h List.nodup_nil
  have : F1 = [] := by
    cases F1 with
    | nil => rfl
    | cons a l => exact absurd (h3.subset List.mem_cons_self) (by simp)
  subst this
  exact ⟨v, h1, h2⟩
def xfM (c : Str) (f : Str) (fa : M D) : M D := oneM fa fun d => match d with
  | .exc c' fs => if c' = c then xfD f (.exc c' fs) else none
  | _ => none
theorem ve_xf {c : Str} (hcl : ∀ C, X.mg c = some (.ref C) → XfC X.K C ∧ PySem.W.findIn X.K (.ref C) n = some none) (he : VE X e fa Ta sa) (hb : attributeBase e n X.env (eval e X.env) = eval e X.env := by rfl) : VE X (.Attribute e n pos) (xfM c n fa) Ta none := by
  refine ⟨fun W tk => pe_imp (t := fun σ H Q => tE X.K X.mg fa Ta sa W σ H fun x H1 => ∃ a C dd fs v, x = .ref a ∧ X.mg c = some (.ref C) ∧ H1 a = some (ExO (.ref C) (some dd) a) ∧ H1 dd = some (.xd fs) ∧ fs.lookup n = some v ∧ Q v H1) ⟨fun pins s σ H Q I h => ?_⟩ fun σ H Q h => tE_one (r := fun x H1 Q => ∃ a C dd fs v, x = .ref a ∧ X.mg c = some (.ref C) ∧ H1 a = some (ExO (.ref C) (some dd) a) ∧ H1 dd = some (.xd fs) ∧ fs.lookup n = some v ∧ Q v H1) (fun {Z H d1 d v1 F1 Q} zs ra e res => ?_) h⟩
  · refine attr_of hb (thn ((he.run W tk).run pins s σ H _ I h) fun u s1 hh => ?_)
    obtain ⟨x, H1, I1, rx, a, C, dd, fs, v, ex, em, ea, ed, l, q⟩ := hh
    subst ex
    obtain rfl : u = Value.ref a := rx
    obtain ⟨T, hno⟩ := hcl C em
    obtain ⟨⟨oe, vs, ho, hz, hdat⟩, _⟩ := I1.hok a _ ea
    have hx : ObjOk X.prog X.w H1 s1.heap dd (.xd fs) := I1.hok dd _ ed
    obtain ⟨mA, hns, hr⟩ := hx
    obtain ⟨od, hod, hl⟩ := lookIn_ns hns
    obtain ⟨u, hu, ru⟩ := RelO.some_of (v := v) (o := mA n) (by rw [← l]; exact hr n)
    have J : PySem.W.InstAt s1.heap a oe C (some od) := ⟨ho, hz.1, by unfold PySem.W.notCls; rw [hdat] <;> rfl, by rw [hz.2]; exact hod⟩
    exact HandSPX.exc_get I1.kIn J T.ga T.gg T.exC (PySem.W.findObj_own T.hdC hno rfl (by rw [hl, hu])) (handed_of ru) ⟨v, H1, I1.tok _, ru, q⟩
  · split at e
    · rename_i c' fs
      split at e
      · rename_i hc
        subst hc
        simp only [xfD] at e
        split at e
        · rename_i d0 hd0
          split at e
          · cases e
          · rename_i ho
            cases e
            simp only [Rep] at ra
            obtain ⟨a, C, dd, vs, rfl, m, t, z, _, rf, y⟩ := ra
            obtain ⟨v, h1, h2⟩ := repf_at rf hd0
            rcases y with ⟨rfl, _⟩ | ⟨dx, rfl, y2, y3⟩
            · simp [fAt] at hd0
            · exact ⟨a, C, dx, _, v, rfl, m, t, y2, h1, res_flat zs res h2⟩
        · cases e
      · cases e
    · cases e
end
end VI
/-! V24: what the top has written, in short -/
namespace VI
open PySem PySem.Spec L2
def excB (K : PySem.W.Frag) (D : Addr) : Bool :=
  decide (PySem.W.findIn K (.ref D) "__getattribute__" = some (some (.builtin "BaseException.__getattribute__"))) && decide (PySem.W.findIn K (.ref D) "__getattr__" = some none) && decide (PySem.W.subIn K (.ref D) (.type "BaseException") = some true) && PySem.W.hasDictIn K D &&
  decide (PySem.W.findIn K (.ref D) "__class__" = some (some (.builtin "object.__class__"))) && decide (PySem.W.specialIn K (.builtin "object.__class__") "__get__" = some (some (.builtin "getset_descriptor.__get__"))) && decide (PySem.W.takesIn K (.builtin "object.__class__") = some true) && decide (PySem.W.mroIn K D (.type "object") = some true)
theorem excB_ok {K : PySem.W.Frag} {D : Addr} (h : excB K D = true) : ExcC K D := by
  unfold excB at h
  simp only [Bool.and_eq_true, decide_eq_true_eq] at h
  obtain ⟨⟨⟨⟨⟨⟨⟨h1, h2⟩, h3⟩, h4⟩, h5⟩, h6⟩, h7⟩, h8⟩ := h
  exact ⟨h1, h2, h3, h4, h5, h6, h7, h8⟩
def teB (K : PySem.W.Frag) (ans : Value → Option Bool) (l : List (Str × Addr × Bool)) : Bool := l.all fun q => excB K q.2.1 && decide (ans (.ref q.2.1) = some q.2.2)
def tbB (ans : Value → Option Bool) (l : List (String × Bool)) : Bool := l.all fun q => decide (ans (.type q.1) = some q.2)
theorem te_of {K : PySem.W.Frag} {mg : Mg} {ans : Value → Option Bool} (l : List (Str × Addr × Bool)) (hg : ∀ q ∈ l, mg q.1 = some (.ref q.2.1)) (hb : teB K ans l = true) : ∀ p ∈ l.map (fun q => (q.1, q.2.2)), ∀ C, mg p.1 = some (.ref C) → ExcC K C ∧ ans (.ref C) = some p.2 := by
  intro p hp C hC
  obtain ⟨q, hq, rfl⟩ := List.mem_map.mp hp
  have h1 := hg q hq
  simp only at hC
  rw [h1] at hC
  cases hC
  have := List.all_eq_true.mp hb q hq
  simp only [Bool.and_eq_true, decide_eq_true_eq] at this
  exact ⟨excB_ok this.1, this.2⟩
theorem tb_of {ans : Value → Option Bool} {l : List (String × Bool)} (hb : tbB ans l = true) : ∀ p ∈ l, ans (.type p.1) = some p.2 := by
  intro p hp
  have := List.all_eq_true.mp hb p hp
  simpa using this
theorem FnOk.law {P : Program} {w : World} {K : PySem.W.Frag} {mg : Mg} {base : Heap} {k : Nat} {f : Addr} {fd : FuncData} {x : Str} {φ : List D → CRes} (F : FnOk P w K mg base (L2.CX P w) k f fd [x] (spOf K mg 1 φ)) (h : ∀ ns : List Int, ns.length ≤ 63 → ∃ fin, φ [scriptD ns] = .ok (.bl true) fin) :
    FnOk P w K mg base (L2.CX P w) k f fd [x] (spLaw K) := F.imp (law_sp h)
end VI
/-! V25: loops, by invariants; arithmetic; for the pure parts -/
namespace VI
open PySem PySem.Spec L2
theorem forM_run {gt : D → M Unit} {fb : M Fl} (P : Nat → Env → Prop) : ∀ (ds : List D) (i : Nat) (env : Env), P i env → (∀ j d e, ds[j]? = some d → P (i + j) e → d.own = false ∧ ∃ e1 e2, gt d e = .ok () e1 ∧ fb e1 = .ok .nx e2 ∧ P (i + j + 1) e2) → ∃ e', forM gt fb ds env = .ok .nx e' ∧ P (i + ds.length) e'
  | [], i, env, h, _ => ⟨env, rfl, h⟩
  | d :: ds, i, env, h, k => by
    obtain ⟨ho, e1, e2, h1, h2, h3⟩ := k 0 d env rfl h
    obtain ⟨e', q1, q2⟩ := forM_run P ds (i + 1) e2 h3 fun j d e hd hp => by
      have := k (j + 1) d e (by simpa using hd) (by rw [show i + (j + 1) = i + 1 + j by omega]; exact hp)
      rw [show i + (j + 1) + 1 = i + 1 + j + 1 by omega] at this
      exact this
    refine ⟨e', ?_, by rw [List.length_cons, show i + (ds.length + 1) = i + 1 + ds.length by omega]; exact q2⟩
    unfold forM
    rw [if_neg (by rw [ho]; exact Bool.false_ne_true)]
    unfold gtb
    rw [h1]
    show bnd fb _ e1 = _
    unfold bnd
    rw [h2]
    exact q1
theorem compLoop_run {gt : D → M Unit} {ft : M Bool} {fe : M D} {vs : List Nat} (P : Nat → List D → Env → Prop) : ∀ (ds : List D) (i : Nat) (acc : List D) (env : Env), P i acc env →
    (∀ j d acc e, ds[j]? = some d → P (i + j) acc e → d.own = false ∧ ∃ e1 e2 e3 y, gt d e = .ok () e1 ∧ ft e1 = .ok true e2 ∧ fe e2 = .ok y e3 ∧ acc.length < 16777216 ∧ P (i + j + 1) (acc ++ [y]) (e3.dropL vs)) → ∃ out e', compLoop gt ft fe vs ds acc env = .ok out e' ∧ P (i + ds.length) out e'
  | [], i, acc, env, h, _ => ⟨acc, env, rfl, h⟩
  | d :: ds, i, acc, env, h, k => by
    obtain ⟨ho, e1, e2, e3, y, h1, h2, h3, h4, h5⟩ := k 0 d acc env rfl h
    obtain ⟨out, e', q1, q2⟩ := compLoop_run P ds (i + 1) (acc ++ [y]) (e3.dropL vs) h5 fun j d acc e hd hp => by
      have := k (j + 1) d acc e (by simpa using hd) (by rw [show i + (j + 1) = i + 1 + j by omega]; exact hp)
      rw [show i + (j + 1) + 1 = i + 1 + j + 1 by omega] at this
      exact this
    refine ⟨out, e', ?_, by rw [List.length_cons, show i + (ds.length + 1) = i + 1 + ds.length by omega]; exact q2⟩
    simp only [compLoop, h1, h2, h3, ho, if_pos h4, Bool.false_eq_true, if_false]
    exact q1
theorem mulI_r {i j : Int} (h1 : -18446744073709551616 < j) (h2 : j < 18446744073709551616) : mulI (.int i) (.int j) = some (.int (i * j)) := by simp [mulI, h1, h2]
theorem mulI_l {i j : Int} (h1 : -18446744073709551616 < i) (h2 : i < 18446744073709551616) : mulI (.int i) (.int j) = some (.int (i * j)) := by simp [mulI, h1, h2]
theorem modD_p {i j : Int} (h : 0 < j) : modD (.int i) (.int j) = some (.int (i % j)) := by simp [modD, h]
theorem fdivD_p {i j : Int} (h : 0 < j) (h2 : j < 1073741824) : fdivD (.int i) (.int j) = some (.int (i / j)) := by simp [fdivD, h, h2]
theorem ixN_pos {n : Nat} {i : Int} (h0 : 0 ≤ i) (h1 : i < n) : ixN n i = some i.toNat := by unfold ixN; rw [if_pos h0, if_pos h1]
theorem rangeD_get {lo hi : Int} {j : Nat} {d : D} (h : (rangeD lo hi)[j]? = some d) : d = .int (lo + j) ∧ (j : Int) < hi - lo := by
  unfold rangeD at h
  rw [List.getElem?_map] at h
  by_cases hj : j < (hi - lo).toNat
  · rw [List.getElem?_range hj] at h
    simp only [Option.map_some, Option.some.injEq] at h
    exact ⟨h.symm, by omega⟩
  · rw [List.getElem?_eq_none (by simpa using hj)] at h
    simp at h
theorem rangeD_len {lo hi : Int} : (rangeD lo hi).length = (hi - lo).toNat := by simp [rangeD]
theorem owns_map {α : Type} (f : α → D) (h : ∀ a, (f a).own = false) (l : List α) : D.owns (l.map f) = false := by
  induction l with
  | nil => rfl
  | cons x l ih => simp [D.owns, h, ih]
theorem seq_nx {f g : M Fl} {e e1 : Env} (h : f e = .ok .nx e1) : seqM f g e = g e1 := by
  unfold seqM bnd
  rw [h]
theorem runB_rt {n : Nat} {body : M Fl} {ds fin : List D} {d : D} {e : Env} (h : body (env0 n ds) = .ok (.rt d) e) (hf : finL ds e.s = some fin) : runB n body ds = .ok d fin := by
  unfold runB
  rw [h]
  simp only [hf]
theorem script_own (ns : List Int) : (scriptD ns).own = false := by simp [scriptD, D.own, owns_map D.int (fun _ => rfl)]
theorem finL_script (ns : List Int) (s : List (Option D)) : finL [scriptD ns] s = some [scriptD ns] := by
  cases s <;> simp [finL, script_own]
theorem compM_run {vs : List Nat} {fi : M (List D)} {gt : D → M Unit} {ft : M Bool} {fe : M D} {env e1 : Env} {ds : List D} (P : Nat → List D → Env → Prop) (h : fi env = .ok ds e1) (hs : savedOk e1 vs = true) (h0 : P 0 [] (e1.dropL vs))
    (k : ∀ j d acc e, ds[j]? = some d → P j acc e → d.own = false ∧ ∃ e1 e2 e3 y, gt d e = .ok () e1 ∧ ft e1 = .ok true e2 ∧ fe e2 = .ok y e3 ∧ acc.length < 16777216 ∧ P (j + 1) (acc ++ [y]) (e3.dropL vs)) :
    ∃ out e', compM vs fi gt ft fe env = .ok (.lst true out) (e'.restL e1 vs) ∧ P ds.length out e' := by
  obtain ⟨out, e', q1, q2⟩ := compLoop_run (gt := gt) (ft := ft) (fe := fe) (vs := vs) P ds 0 [] (e1.dropL vs) h0 (fun j d acc e hd hp => by
    have := k j d acc e hd (by simpa using hp)
    simpa using this)
  refine ⟨out, e', ?_, by simpa using q2⟩
  unfold compM bnd
  rw [h]
  simp only [hs, if_true, q1]
end VI
/-! printed by gen.py -/
namespace LW
open PySem PySem.Spec L2 VI
def top (i : Nat) : Stmt := PySem.Challenge.pw_standhouse_k93_refusals_made.main.body.getD i (.Pass ⟨0, 0, 0, 0⟩)
def tb_BadMachine : List (String × Bool) := [("NoneType", false), ("bool", false), ("int", false), ("str", false), ("tuple", false), ("list", false), ("dict", false)]
def te_BadMachine : List (Str × Bool) := [("HandError", false), ("BadDeeds", false), ("BadHand", false), ("BadHouse", false), ("BadMachine", true), ("BadNode", false), ("BadRow", false), ("BadWay", false), ("BadPaper", false), ("NoName", false), ("TooGreat", false), ("BadText", false)]
def tb_BadHouse : List (String × Bool) := [("NoneType", false), ("bool", false), ("int", false), ("str", false), ("tuple", false), ("list", false), ("dict", false)]
def te_BadHouse : List (Str × Bool) := [("HandError", false), ("BadDeeds", false), ("BadHand", false), ("BadHouse", true), ("BadMachine", false), ("BadNode", false), ("BadRow", false), ("BadWay", false), ("BadPaper", false), ("NoName", false), ("TooGreat", false), ("BadText", false)]
def tb_BadHand : List (String × Bool) := [("NoneType", false), ("bool", false), ("int", false), ("str", false), ("tuple", false), ("list", false), ("dict", false)]
def te_BadHand : List (Str × Bool) := [("HandError", false), ("BadDeeds", false), ("BadHand", true), ("BadHouse", false), ("BadMachine", false), ("BadNode", false), ("BadRow", false), ("BadWay", false), ("BadPaper", false), ("NoName", false), ("TooGreat", false), ("BadText", false)]
def tb_BadDeeds : List (String × Bool) := [("NoneType", false), ("bool", false), ("int", false), ("str", false), ("tuple", false), ("list", false), ("dict", false)]
def te_BadDeeds : List (Str × Bool) := [("HandError", false), ("BadDeeds", true), ("BadHand", false), ("BadHouse", false), ("BadMachine", false), ("BadNode", false), ("BadRow", false), ("BadWay", false), ("BadPaper", false), ("NoName", false), ("TooGreat", false), ("BadText", false)]
def tb_BadPaper : List (String × Bool) := [("NoneType", false), ("bool", false), ("int", false), ("str", false), ("tuple", false), ("list", false), ("dict", false)]
def te_BadPaper : List (Str × Bool) := [("HandError", false), ("BadDeeds", false), ("BadHand", false), ("BadHouse", false), ("BadMachine", false), ("BadNode", false), ("BadRow", false), ("BadWay", false), ("BadPaper", true), ("NoName", false), ("TooGreat", false), ("BadText", false)]
def tb_BadWay : List (String × Bool) := [("NoneType", false), ("bool", false), ("int", false), ("str", false), ("tuple", false), ("list", false), ("dict", false)]
def te_BadWay : List (Str × Bool) := [("HandError", false), ("BadDeeds", false), ("BadHand", false), ("BadHouse", false), ("BadMachine", false), ("BadNode", false), ("BadRow", false), ("BadWay", true), ("BadPaper", false), ("NoName", false), ("TooGreat", false), ("BadText", false)]
def tb_BadRow : List (String × Bool) := [("NoneType", false), ("bool", false), ("int", false), ("str", false), ("tuple", false), ("list", false), ("dict", false)]
def te_BadRow : List (Str × Bool) := [("HandError", false), ("BadDeeds", false), ("BadHand", false), ("BadHouse", false), ("BadMachine", false), ("BadNode", false), ("BadRow", true), ("BadWay", false), ("BadPaper", false), ("NoName", false), ("TooGreat", false), ("BadText", false)]
def tb_BadNode : List (String × Bool) := [("NoneType", false), ("bool", false), ("int", false), ("str", false), ("tuple", false), ("list", false), ("dict", false)]
def te_BadNode : List (Str × Bool) := [("HandError", false), ("BadDeeds", false), ("BadHand", false), ("BadHouse", false), ("BadMachine", false), ("BadNode", true), ("BadRow", false), ("BadWay", false), ("BadPaper", false), ("NoName", false), ("TooGreat", false), ("BadText", false)]
def tb_BadText : List (String × Bool) := [("NoneType", false), ("bool", false), ("int", false), ("str", false), ("tuple", false), ("list", false), ("dict", false)]
def te_BadText : List (Str × Bool) := [("HandError", false), ("BadDeeds", false), ("BadHand", false), ("BadHouse", false), ("BadMachine", false), ("BadNode", false), ("BadRow", false), ("BadWay", false), ("BadPaper", false), ("NoName", false), ("TooGreat", false), ("BadText", true)]
def tb_TooGreat : List (String × Bool) := [("NoneType", false), ("bool", false), ("int", false), ("str", false), ("tuple", false), ("list", false), ("dict", false)]
def te_TooGreat : List (Str × Bool) := [("HandError", false), ("BadDeeds", false), ("BadHand", false), ("BadHouse", false), ("BadMachine", false), ("BadNode", false), ("BadRow", false), ("BadWay", false), ("BadPaper", false), ("NoName", false), ("TooGreat", true), ("BadText", false)]
def tb_NoName : List (String × Bool) := [("NoneType", false), ("bool", false), ("int", false), ("str", false), ("tuple", false), ("list", false), ("dict", false)]
def te_NoName : List (Str × Bool) := [("HandError", false), ("BadDeeds", false), ("BadHand", false), ("BadHouse", false), ("BadMachine", false), ("BadNode", false), ("BadRow", false), ("BadWay", false), ("BadPaper", false), ("NoName", true), ("TooGreat", false), ("BadText", false)]
def tb_HandError : List (String × Bool) := [("NoneType", false), ("bool", false), ("int", false), ("str", false), ("tuple", false), ("list", false), ("dict", false)]
def te_HandError : List (Str × Bool) := [("HandError", true), ("BadDeeds", true), ("BadHand", true), ("BadHouse", true), ("BadMachine", true), ("BadNode", true), ("BadRow", true), ("BadWay", true), ("BadPaper", true), ("NoName", true), ("TooGreat", true), ("BadText", true)]
def tb_ValueError : List (String × Bool) := [("NoneType", false), ("bool", false), ("int", false), ("str", false), ("tuple", false), ("list", false), ("dict", false)]
def te_ValueError : List (Str × Bool) := [("HandError", true), ("BadDeeds", true), ("BadHand", true), ("BadHouse", true), ("BadMachine", true), ("BadNode", true), ("BadRow", true), ("BadWay", true), ("BadPaper", true), ("NoName", true), ("TooGreat", true), ("BadText", true)]
/-- _law_mixed: 0 _law_cell 1 _law_k 2 _law_number -/
def b_0 (Φ : Ph) : M Fl :=
    seqM (asgM 2 (twoM true (twoM true (twoM true (twoM true (twoM true (varM 0) (twoM true (pur (.int 1)) (twoM true (pur (.int 2)) (varM 1) mulI) addD) mulI) (pur (.int 48271)) mulI) (pur (.int 2147483647)) modD) (twoM true (twoM true (pur (.int 7919)) (varM 1) mulI) (varM 1) mulI) addD) (twoM true (pur (.int 104729)) (varM 1) mulI) addD))
    (retM (twoM true (twoM true (twoM true (varM 2) (pur (.int 69621)) mulI) (pur (.int 2147483629)) modD) (pur (.int 7)) fdivD))
/-- _law_folded: 0 _law_script 1 _law_found 2 _law_k 3 _law_cell -/
def b_1 (Φ : Ph) : M Fl :=
    seqM (asgM 1 (compM [2] (range1I (pur (.int 64))) (gnM 2) (pur true) (twoM true (pur (.int 17)) (varM 2) addD)))
    (seqM (forS (enumI (varM 0)) (gtM 2 (gconsM (gnM 2) (gconsM (gnM 3) (gnilM)))) (storeM 1 (twoM true (twoM true (twoM true (twoM true (varM 1) (twoM true (varM 2) (pur (.int 64)) modD) ixD) (pur (.int 48271)) mulI) (varM 3) addD) (pur (.int 2147483647)) modD) (rootM 1) (twoM true (varM 2) (pur (.int 64)) modD)))
    (seqM (forS (range2I (pur (.int 1)) (pur (.int 64))) (gnM 2) (storeM 1 (twoM true (twoM true (twoM true (varM 1) (varM 2) ixD) (twoM true (twoM true (varM 1) (twoM true (varM 2) (pur (.int 1)) subD) ixD) (pur (.int 16807)) mulI) addD) (pur (.int 2147483647)) modD) (rootM 1) (varM 2)))
    (retM (moveM 1))))
/-- _law_draw: 0 _law_m 1 _law_many 2 _law_k 3 _law_at 4 _law_cell -/
def b_2 (Φ : Ph) : M Fl :=
    seqM (asgM 2 (plainM (getM 0 (pixM 0 (rootM 0) (pur (.str "at"))))))
    (seqM (storeM 0 (twoM true (varM 2) (pur (.int 1)) addD) (rootM 0) (pur (.str "at")))
    (seqM (iteM (boolM (twoM true (getM 0 (pixM 0 (rootM 0) (pur (.str "left")))) (lstM (pur [])) neD)) (seqM (asgM 3 (twoM true (varM 2) (oneM (getM 0 (pixM 0 (rootM 0) (pur (.str "left")))) lenD) modD))
    (seqM (asgM 4 (plainM (getM 0 (pixM 0 (pixM 0 (rootM 0) (pur (.str "left"))) (varM 3)))))
    (iteM (boolM (twoM true (varM 4) (pur (.int 0)) gtD)) (seqM (storeM 0 (twoM true (varM 4) (varM 1) fdivD) (pixM 0 (rootM 0) (pur (.str "left"))) (varM 3))
    (retM (twoM true (varM 4) (varM 1) modD))) (pur .nx)))) (pur .nx))
    (retM (twoM true (callM (Φ 0) (argM (callM (Φ 0) (argM (twoM true (getM 0 (pixM 0 (pixM 0 (rootM 0) (pur (.str "cells"))) (twoM true (varM 2) (pur (.int 64)) modD))) (twoM true (pur (.int 31)) (twoM true (varM 2) (pur (.int 64)) fdivD) mulI) addD) (narM 2 (pur [])))) (argM (twoM true (varM 2) (pur (.int 7)) addD) (pur [])))) (varM 1) modD))))
/-- _law_begun: 0 _law_script 1 _law_m 2 _law_cell -/
def b_3 (Φ : Ph) : M Fl :=
    seqM (asgM 1 (dispM ["cells", "left", "at"] (consM (callM (Φ 1) (narM 0 (pur []))) (consM (lstM (pur [])) (consM (pur (.int 0)) (pur []))))))
    (seqM (storeM 1 (compM [2] (seqI (varM 0)) (gnM 2) (pur true) (iteM (boolM (twoM true (varM 2) (twoM true (pur (.int 10)) (pur (.int 18)) powD) geD)) (keepM 2) (pur (.int 0)))) (rootM 1) (pur (.str "left")))
    (retM (moveM 1)))
/-- _law_said: 0 _law_m 1 _law_words 2 _law_k -/
def b_4 (Φ : Ph) : M Fl :=
    seqM (asgM 1 (lstM (consM (pur (.str "hand")) (consM (pur (.str "no house")) (consM (pur (.str "a")) (consM (pur (.str "")) (consM (pur (.str "row 3")) (consM (pur (.str "way:")) (consM (pur (.str "0")) (consM (pur (.str "stands?")) (pur [])))))))))))
    (retM (joinM (pur (.str " ")) (compM [2] (range1I (callM (Φ 2) (narM 0 (argM (pur (.int 4)) (pur []))))) (gnM 2) (pur true) (twoM true (varM 1) (callM (Φ 2) (narM 0 (argM (pur (.int 8)) (pur [])))) ixD))))
/-- _law_line: 0 _law_m -/
def b_5 (Φ : Ph) : M Fl :=
    retM (twoM true (lstM (consM (pur (.int 0)) (consM (pur (.int 1)) (consM (pur (.int 2)) (consM (pur (.int 40)) (consM (callM (Φ 2) (narM 0 (argM (pur (.int 1000)) (pur [])))) (pur []))))))) (callM (Φ 2) (narM 0 (argM (pur (.int 5)) (pur [])))) ixD)
/-- _law_is: 0 _law_e 1 _law_kinds -/
def b_6 (Φ : Ph) : M Fl :=
    seqM (asgM 1 (lstM (consM (oneM (varM 0) (isiD tb_BadDeeds te_BadDeeds)) (consM (oneM (varM 0) (isiD tb_BadHand te_BadHand)) (consM (oneM (varM 0) (isiD tb_BadHouse te_BadHouse)) (consM (oneM (varM 0) (isiD tb_BadMachine te_BadMachine)) (pur [])))))))
    (seqM (asgM 1 (twoM true (varM 1) (lstM (consM (oneM (varM 0) (isiD tb_BadNode te_BadNode)) (consM (oneM (varM 0) (isiD tb_BadRow te_BadRow)) (consM (oneM (varM 0) (isiD tb_BadWay te_BadWay)) (consM (oneM (varM 0) (isiD tb_BadPaper te_BadPaper)) (pur [])))))) addD))
    (retM (twoM true (varM 1) (lstM (consM (oneM (varM 0) (isiD tb_NoName te_NoName)) (consM (oneM (varM 0) (isiD tb_TooGreat te_TooGreat)) (consM (oneM (varM 0) (isiD tb_BadText te_BadText)) (pur []))))) addD)))
/-- _law_all: 0 _law_one 1 _law_two 2 _law_line_here 3 _law_found -/
def b_7 (Φ : Ph) : M Fl :=
    seqM (asgM 3 (lstM (consM (excM "BadDeeds" (varM 0)) (consM (excM "BadHand" (varM 1)) (consM (excM "BadHouse" (varM 0)) (consM (excM "BadMachine" (varM 1)) (consM (excM "BadNode" (varM 0)) (consM (excM "BadRow" (varM 1)) (consM (excM "BadWay" (varM 0)) (pur []))))))))))
    (retM (twoM true (varM 3) (lstM (consM (excM "BadPaper" (varM 1)) (consM (excM "NoName" (varM 0)) (consM (excM "TooGreat" (varM 1)) (consM (mkxM "BadText" "line" (keepM 2)) (pur [])))))) addD))
/-- law: 0 _law_script 1 _law_m 2 _law_turn 3 _law_some 4 _law_k 5 _law_one 6 _law_two 7 _law_line_here 8 _law_spot -/
def b_8 (Φ : Ph) : M Fl :=
    seqM (asgM 1 (callM (Φ 3) (narM 0 (pur []))))
    (seqM (forS (range1I (pur (.int 3))) (gnM 2) (seqM (parM [5, 6, 7] (consM (callM (Φ 4) (narM 1 (pur []))) (consM (callM (Φ 4) (narM 1 (pur []))) (consM (callM (Φ 5) (narM 1 (pur []))) (pur [])))))
    (seqM (asgM 3 (callM (Φ 7) (narM 5 (narM 6 (narM 7 (pur []))))))
    (seqM (forS (range1I (pur (.int 11))) (gnM 4) (seqM (iteM (boolM (twoM true (callM (Φ 6) (argM (twoM true (varM 3) (varM 4) ixD) (pur []))) (compM [8] (range1I (pur (.int 11))) (gnM 8) (pur true) (twoM true (varM 4) (varM 8) eqD)) neD)) (retM (pur (.bl false))) (pur .nx))
    (iteM (orM (notM (boolM (oneM (twoM true (varM 3) (varM 4) ixD) (isiD tb_HandError te_HandError)))) (notM (boolM (oneM (twoM true (varM 3) (varM 4) ixD) (isiD tb_ValueError te_ValueError))))) (retM (pur (.bl false))) (pur .nx))))
    (iteM (boolM (twoM true (oneM (xfM "BadText" "line" (mkxM "BadText" "line" (keepM 7))) reprI) (oneM (varM 7) reprI) neD)) (retM (pur (.bl false))) (pur .nx))))))
    (retM (twoM true (lstM (consM (xfM "BadText" "line" (mkxM "BadText" "line" (pur (.int 0)))) (consM (xfM "BadText" "line" (mkxM "BadText" "line" (pur (.int 7)))) (consM (xfM "BadText" "line" (mkxM "BadText" "line" (pur (.int 41)))) (pur []))))) (lstM (consM (pur (.int 0)) (consM (pur (.int 7)) (consM (pur (.int 41)) (pur []))))) eqD)))
abbrev s_0 : Stmt := top 14
abbrev d_0 : DefI := ⟨"_law_mixed", "_law_mixed", s_0, ["_law_cell", "_law_k", "_law_number"], ["_law_cell", "_law_k"], b_0⟩
abbrev s_1 : Stmt := top 15
abbrev d_1 : DefI := ⟨"_law_folded", "_law_folded", s_1, ["_law_script", "_law_found", "_law_k", "_law_cell"], ["_law_script"], b_1⟩
abbrev s_2 : Stmt := top 16
abbrev d_2 : DefI := ⟨"_law_draw", "_law_draw", s_2, ["_law_m", "_law_many", "_law_k", "_law_at", "_law_cell"], ["_law_m", "_law_many"], b_2⟩
abbrev s_3 : Stmt := top 17
abbrev d_3 : DefI := ⟨"_law_begun", "_law_begun", s_3, ["_law_script", "_law_m", "_law_cell"], ["_law_script"], b_3⟩
abbrev s_4 : Stmt := top 18
abbrev d_4 : DefI := ⟨"_law_said", "_law_said", s_4, ["_law_m", "_law_words", "_law_k"], ["_law_m"], b_4⟩
abbrev s_5 : Stmt := top 19
abbrev d_5 : DefI := ⟨"_law_line", "_law_line", s_5, ["_law_m"], ["_law_m"], b_5⟩
abbrev s_6 : Stmt := top 20
abbrev d_6 : DefI := ⟨"_law_is", "_law_is", s_6, ["_law_e", "_law_kinds"], ["_law_e"], b_6⟩
abbrev s_7 : Stmt := top 21
abbrev d_7 : DefI := ⟨"_law_all", "_law_all", s_7, ["_law_one", "_law_two", "_law_line_here", "_law_found"], ["_law_one", "_law_two", "_law_line_here"], b_7⟩
abbrev s_8 : Stmt := top 22
abbrev d_8 : DefI := ⟨"law", "law", s_8, ["_law_script", "_law_m", "_law_turn", "_law_some", "_law_k", "_law_one", "_law_two", "_law_line_here", "_law_spot"], ["_law_script"], b_8⟩
abbrev DL : List DefI := [d_0, d_1, d_2, d_3, d_4, d_5, d_6, d_7, d_8]
theorem phi_0 (n : Nat) (ds : List D) : PhiN DL (n + 1) 0 ds = runB 3 (b_0 (PhiN DL n)) ds := rfl
theorem sc_0 : FnScope ["_law_cell", "_law_k", "_law_number"] ["_law_cell", "_law_k"] (defScope s_0) := ⟨rfl, rfl, rfl, by decide +kernel, rfl, by decide +kernel, by decide +kernel⟩
theorem phi_1 (n : Nat) (ds : List D) : PhiN DL (n + 1) 1 ds = runB 4 (b_1 (PhiN DL n)) ds := rfl
theorem sc_1 : FnScope ["_law_script", "_law_found", "_law_k", "_law_cell"] ["_law_script"] (defScope s_1) := ⟨rfl, rfl, rfl, by decide +kernel, rfl, by decide +kernel, by decide +kernel⟩
theorem phi_2 (n : Nat) (ds : List D) : PhiN DL (n + 1) 2 ds = runB 5 (b_2 (PhiN DL n)) ds := rfl
theorem sc_2 : FnScope ["_law_m", "_law_many", "_law_k", "_law_at", "_law_cell"] ["_law_m", "_law_many"] (defScope s_2) := ⟨rfl, rfl, rfl, by decide +kernel, rfl, by decide +kernel, by decide +kernel⟩
theorem phi_3 (n : Nat) (ds : List D) : PhiN DL (n + 1) 3 ds = runB 3 (b_3 (PhiN DL n)) ds := rfl
theorem sc_3 : FnScope ["_law_script", "_law_m", "_law_cell"] ["_law_script"] (defScope s_3) := ⟨rfl, rfl, rfl, by decide +kernel, rfl, by decide +kernel, by decide +kernel⟩
theorem phi_4 (n : Nat) (ds : List D) : PhiN DL (n + 1) 4 ds = runB 3 (b_4 (PhiN DL n)) ds := rfl
theorem sc_4 : FnScope ["_law_m", "_law_words", "_law_k"] ["_law_m"] (defScope s_4) := ⟨rfl, rfl, rfl, by decide +kernel, rfl, by decide +kernel, by decide +kernel⟩
theorem phi_5 (n : Nat) (ds : List D) : PhiN DL (n + 1) 5 ds = runB 1 (b_5 (PhiN DL n)) ds := rfl
theorem sc_5 : FnScope ["_law_m"] ["_law_m"] (defScope s_5) := ⟨rfl, rfl, rfl, by decide +kernel, rfl, by decide +kernel, by decide +kernel⟩
theorem phi_6 (n : Nat) (ds : List D) : PhiN DL (n + 1) 6 ds = runB 2 (b_6 (PhiN DL n)) ds := rfl
theorem sc_6 : FnScope ["_law_e", "_law_kinds"] ["_law_e"] (defScope s_6) := ⟨rfl, rfl, rfl, by decide +kernel, rfl, by decide +kernel, by decide +kernel⟩
theorem phi_7 (n : Nat) (ds : List D) : PhiN DL (n + 1) 7 ds = runB 4 (b_7 (PhiN DL n)) ds := rfl
theorem sc_7 : FnScope ["_law_one", "_law_two", "_law_line_here", "_law_found"] ["_law_one", "_law_two", "_law_line_here"] (defScope s_7) := ⟨rfl, rfl, rfl, by decide +kernel, rfl, by decide +kernel, by decide +kernel⟩
theorem phi_8 (n : Nat) (ds : List D) : PhiN DL (n + 1) 8 ds = runB 9 (b_8 (PhiN DL n)) ds := rfl
theorem sc_8 : FnScope ["_law_script", "_law_m", "_law_turn", "_law_some", "_law_k", "_law_one", "_law_two", "_law_line_here", "_law_spot"] ["_law_script"] (defScope s_8) := ⟨rfl, rfl, rfl, by decide +kernel, rfl, by decide +kernel, by decide +kernel⟩
structure MF (P : Program) (w : World) (K : PySem.W.Frag) (mg : Mg) (base : Heap) (C_HandError C_BadDeeds C_BadHand C_BadHouse C_BadMachine C_BadNode C_BadRow C_BadWay C_BadPaper C_NoName C_TooGreat C_BadText : Addr) : Prop where
  b_ValueError : mg "ValueError" = none
  b_enumerate : mg "enumerate" = none
  b_isinstance : mg "isinstance" = none
  b_len : mg "len" = none
  b_range : mg "range" = none
  b_repr : mg "repr" = none
  g_HandError : mg "HandError" = some (.ref C_HandError)
  k_HandError : PySem.W.keepIn K (.ref C_HandError) = true
  q_HandError : PySem.W.excIn K C_HandError [.type "ValueError", .type "Exception", .type "BaseException", .type "object"] "ValueError.__new__" = true
  g_BadDeeds : mg "BadDeeds" = some (.ref C_BadDeeds)
  k_BadDeeds : PySem.W.keepIn K (.ref C_BadDeeds) = true
  q_BadDeeds : PySem.W.excIn K C_BadDeeds [.type "ValueError", .type "Exception", .type "BaseException", .type "object"] "ValueError.__new__" = true
  g_BadHand : mg "BadHand" = some (.ref C_BadHand)
  k_BadHand : PySem.W.keepIn K (.ref C_BadHand) = true
  q_BadHand : PySem.W.excIn K C_BadHand [.type "ValueError", .type "Exception", .type "BaseException", .type "object"] "ValueError.__new__" = true
  g_BadHouse : mg "BadHouse" = some (.ref C_BadHouse)
  k_BadHouse : PySem.W.keepIn K (.ref C_BadHouse) = true
  q_BadHouse : PySem.W.excIn K C_BadHouse [.type "ValueError", .type "Exception", .type "BaseException", .type "object"] "ValueError.__new__" = true
  g_BadMachine : mg "BadMachine" = some (.ref C_BadMachine)
  k_BadMachine : PySem.W.keepIn K (.ref C_BadMachine) = true
  q_BadMachine : PySem.W.excIn K C_BadMachine [.type "ValueError", .type "Exception", .type "BaseException", .type "object"] "ValueError.__new__" = true
  g_BadNode : mg "BadNode" = some (.ref C_BadNode)
  k_BadNode : PySem.W.keepIn K (.ref C_BadNode) = true
  q_BadNode : PySem.W.excIn K C_BadNode [.type "ValueError", .type "Exception", .type "BaseException", .type "object"] "ValueError.__new__" = true
  g_BadRow : mg "BadRow" = some (.ref C_BadRow)
  k_BadRow : PySem.W.keepIn K (.ref C_BadRow) = true
  q_BadRow : PySem.W.excIn K C_BadRow [.type "ValueError", .type "Exception", .type "BaseException", .type "object"] "ValueError.__new__" = true
  g_BadWay : mg "BadWay" = some (.ref C_BadWay)
  k_BadWay : PySem.W.keepIn K (.ref C_BadWay) = true
  q_BadWay : PySem.W.excIn K C_BadWay [.type "ValueError", .type "Exception", .type "BaseException", .type "object"] "ValueError.__new__" = true
  g_BadPaper : mg "BadPaper" = some (.ref C_BadPaper)
  k_BadPaper : PySem.W.keepIn K (.ref C_BadPaper) = true
  q_BadPaper : PySem.W.excIn K C_BadPaper [.type "ValueError", .type "Exception", .type "BaseException", .type "object"] "ValueError.__new__" = true
  g_NoName : mg "NoName" = some (.ref C_NoName)
  k_NoName : PySem.W.keepIn K (.ref C_NoName) = true
  q_NoName : PySem.W.excIn K C_NoName [.type "ValueError", .type "Exception", .type "BaseException", .type "object"] "ValueError.__new__" = true
  g_TooGreat : mg "TooGreat" = some (.ref C_TooGreat)
  k_TooGreat : PySem.W.keepIn K (.ref C_TooGreat) = true
  q_TooGreat : PySem.W.excIn K C_TooGreat [.type "ValueError", .type "Exception", .type "BaseException", .type "object"] "ValueError.__new__" = true
  g_BadText : mg "BadText" = some (.ref C_BadText)
  k_BadText : PySem.W.keepIn K (.ref C_BadText) = true
  tb_BadMachine : ∀ p ∈ tb_BadMachine, PySem.W.kitOne K (.type p.1) (.ref C_BadMachine) = some p.2
  te_BadMachine : ∀ p ∈ te_BadMachine, ∀ C, mg p.1 = some (.ref C) → ExcC K C ∧ PySem.W.kitOne K (.ref C) (.ref C_BadMachine) = some p.2
  tb_BadHouse : ∀ p ∈ tb_BadHouse, PySem.W.kitOne K (.type p.1) (.ref C_BadHouse) = some p.2
  te_BadHouse : ∀ p ∈ te_BadHouse, ∀ C, mg p.1 = some (.ref C) → ExcC K C ∧ PySem.W.kitOne K (.ref C) (.ref C_BadHouse) = some p.2
  tb_BadHand : ∀ p ∈ tb_BadHand, PySem.W.kitOne K (.type p.1) (.ref C_BadHand) = some p.2
  te_BadHand : ∀ p ∈ te_BadHand, ∀ C, mg p.1 = some (.ref C) → ExcC K C ∧ PySem.W.kitOne K (.ref C) (.ref C_BadHand) = some p.2
  tb_BadDeeds : ∀ p ∈ tb_BadDeeds, PySem.W.kitOne K (.type p.1) (.ref C_BadDeeds) = some p.2
  te_BadDeeds : ∀ p ∈ te_BadDeeds, ∀ C, mg p.1 = some (.ref C) → ExcC K C ∧ PySem.W.kitOne K (.ref C) (.ref C_BadDeeds) = some p.2
  tb_BadPaper : ∀ p ∈ tb_BadPaper, PySem.W.kitOne K (.type p.1) (.ref C_BadPaper) = some p.2
  te_BadPaper : ∀ p ∈ te_BadPaper, ∀ C, mg p.1 = some (.ref C) → ExcC K C ∧ PySem.W.kitOne K (.ref C) (.ref C_BadPaper) = some p.2
  tb_BadWay : ∀ p ∈ tb_BadWay, PySem.W.kitOne K (.type p.1) (.ref C_BadWay) = some p.2
  te_BadWay : ∀ p ∈ te_BadWay, ∀ C, mg p.1 = some (.ref C) → ExcC K C ∧ PySem.W.kitOne K (.ref C) (.ref C_BadWay) = some p.2
  tb_BadRow : ∀ p ∈ tb_BadRow, PySem.W.kitOne K (.type p.1) (.ref C_BadRow) = some p.2
  te_BadRow : ∀ p ∈ te_BadRow, ∀ C, mg p.1 = some (.ref C) → ExcC K C ∧ PySem.W.kitOne K (.ref C) (.ref C_BadRow) = some p.2
  tb_BadNode : ∀ p ∈ tb_BadNode, PySem.W.kitOne K (.type p.1) (.ref C_BadNode) = some p.2
  te_BadNode : ∀ p ∈ te_BadNode, ∀ C, mg p.1 = some (.ref C) → ExcC K C ∧ PySem.W.kitOne K (.ref C) (.ref C_BadNode) = some p.2
  tb_BadText : ∀ p ∈ tb_BadText, PySem.W.kitOne K (.type p.1) (.ref C_BadText) = some p.2
  te_BadText : ∀ p ∈ te_BadText, ∀ C, mg p.1 = some (.ref C) → ExcC K C ∧ PySem.W.kitOne K (.ref C) (.ref C_BadText) = some p.2
  tb_TooGreat : ∀ p ∈ tb_TooGreat, PySem.W.kitOne K (.type p.1) (.ref C_TooGreat) = some p.2
  te_TooGreat : ∀ p ∈ te_TooGreat, ∀ C, mg p.1 = some (.ref C) → ExcC K C ∧ PySem.W.kitOne K (.ref C) (.ref C_TooGreat) = some p.2
  tb_NoName : ∀ p ∈ tb_NoName, PySem.W.kitOne K (.type p.1) (.ref C_NoName) = some p.2
  te_NoName : ∀ p ∈ te_NoName, ∀ C, mg p.1 = some (.ref C) → ExcC K C ∧ PySem.W.kitOne K (.ref C) (.ref C_NoName) = some p.2
  tb_HandError : ∀ p ∈ tb_HandError, PySem.W.kitOne K (.type p.1) (.ref C_HandError) = some p.2
  te_HandError : ∀ p ∈ te_HandError, ∀ C, mg p.1 = some (.ref C) → ExcC K C ∧ PySem.W.kitOne K (.ref C) (.ref C_HandError) = some p.2
  tb_ValueError : ∀ p ∈ tb_ValueError, PySem.W.kitOne K (.type p.1) (.type "ValueError") = some p.2
  te_ValueError : ∀ p ∈ te_ValueError, ∀ C, mg p.1 = some (.ref C) → ExcC K C ∧ PySem.W.kitOne K (.ref C) (.type "ValueError") = some p.2
  mk_BadText : MkxOk P w K mg base "BadText" "line"
  xf_BadText_line : ∀ C, mg "BadText" = some (.ref C) → XfC K C ∧ PySem.W.findIn K (.ref C) "line" = some none
section
variable {P : Program} {w : World} {K : PySem.W.Frag} {mg : Mg} {base : Heap} {C_HandError C_BadDeeds C_BadHand C_BadHouse C_BadMachine C_BadNode C_BadRow C_BadWay C_BadPaper C_NoName C_TooGreat C_BadText : Addr}
theorem ok_0 (M : MF P w K mg base C_HandError C_BadDeeds C_BadHand C_BadHouse C_BadMachine C_BadNode C_BadRow C_BadWay C_BadPaper C_NoName C_TooGreat C_BadText) : BodyOk P w K mg base DL d_0 := by
  intro k Φ h3 C f cdv A outer s H E hr
  have hr2 := hr.mono (show 2 ≤ k by omega)
  have nd := sc_0.nd
  have hu := hu_of hr
  have hu2 := lt150 hr
  have hp : ∀ W, Takes (cxOf (L2.CX P w) P w K mg base d_0.N d_0.qual (defScope d_0.st) f cdv A outer s H E) W → PassesOwn (model P w) (A.deeper (PyProof.Rows.envOfC d_0.qual (defScope d_0.st) s.heap.objs.size f cdv)) (PyProof.Rows.envOfC d_0.qual (defScope d_0.st) s.heap.objs.size f cdv) (cxOf (L2.CX P w) P w K mg base d_0.N d_0.qual (defScope d_0.st) f cdv A outer s H E).xe := fun W tk => passes_of rfl
  exact ⟨_, vss_cons (sasg (i := 2) nd (ebin true od_add (ebin true od_add (ebin true od_mod (ebin true od_mulI (ebin true od_mulI (ev 0) (ebin true od_add (ve_int) (ebin true od_mulI (ve_int) (ev 1)))) (ve_int)) (ve_int)) (ebin true od_mulI (ebin true od_mulI (ve_int) (ev 1)) (ev 1))) (ebin true od_mulI (ve_int) (ev 1))))
    (vss_one (vs_ret (ebin true od_fdiv (ebin true od_mod (ebin true od_mulI (ev 2) (ve_int)) (ve_int)) (ve_int))))⟩
theorem ok_1 (M : MF P w K mg base C_HandError C_BadDeeds C_BadHand C_BadHouse C_BadMachine C_BadNode C_BadRow C_BadWay C_BadPaper C_NoName C_TooGreat C_BadText) : BodyOk P w K mg base DL d_1 := by
  intro k Φ h3 C f cdv A outer s H E hr
  have hr2 := hr.mono (show 2 ≤ k by omega)
  have nd := sc_1.nd
  have hu := hu_of hr
  have hu2 := lt150 hr
  have hp : ∀ W, Takes (cxOf (L2.CX P w) P w K mg base d_1.N d_1.qual (defScope d_1.st) f cdv A outer s H E) W → PassesOwn (model P w) (A.deeper (PyProof.Rows.envOfC d_1.qual (defScope d_1.st) s.heap.objs.size f cdv)) (PyProof.Rows.envOfC d_1.qual (defScope d_1.st) s.heap.objs.size f cdv) (cxOf (L2.CX P w) P w K mg base d_1.N d_1.qual (defScope d_1.st) f cdv A outer s H E).xe := fun W tk => passes_of rfl
  exact ⟨_, vss_cons (slc (i := 1) [("_law_k", 2)] nd (irange1 M.b_range (ve_int)) (fun _ _ _ _ _ => gnm (i := 2) nd) (fun _ _ _ _ _ => vts_nil) (fun _ _ _ _ _ => ebin true od_add (ve_int) (ev 2)))
    (vss_cons (sfor (ienum M.b_enumerate (ev 0)) (vg_tt rfl (vg_tcons (gnm (i := 2) nd) (vg_tcons (gnm (i := 3) nd) (vg_tnil)))) (vss_one (vs_store (i := 1) hu (ebin true od_mod (ebin true od_add (ebin true od_mulI (eix true (ev 1) (ebin true od_mod (ev 2) (ve_int))) (ve_int)) (ev 3)) (ve_int)) (ep 1) (ebin true od_mod (ev 2) (ve_int)) rfl)) hp)
    (vss_cons (sfor (irange2 M.b_range (ve_int) (ve_int)) (gnm (i := 2) nd) (vss_one (vs_store (i := 1) hu (ebin true od_mod (ebin true od_add (eix true (ev 1) (ev 2)) (ebin true od_mulI (eix true (ev 1) (ebin true od_sub (ev 2) (ve_int))) (ve_int))) (ve_int)) (ep 1) (ev 2) rfl)) hp)
    (vss_one (vs_ret (em 1)))))⟩
theorem ok_2 (M : MF P w K mg base C_HandError C_BadDeeds C_BadHand C_BadHouse C_BadMachine C_BadNode C_BadRow C_BadWay C_BadPaper C_NoName C_TooGreat C_BadText) : BodyOk P w K mg base DL d_2 := by
  intro k Φ h3 C f cdv A outer s H E hr
  have hr2 := hr.mono (show 2 ≤ k by omega)
  have nd := sc_2.nd
  have hu := hu_of hr
  have hu2 := lt150 hr
  have hp : ∀ W, Takes (cxOf (L2.CX P w) P w K mg base d_2.N d_2.qual (defScope d_2.st) f cdv A outer s H E) W → PassesOwn (model P w) (A.deeper (PyProof.Rows.envOfC d_2.qual (defScope d_2.st) s.heap.objs.size f cdv)) (PyProof.Rows.envOfC d_2.qual (defScope d_2.st) s.heap.objs.size f cdv) (cxOf (L2.CX P w) P w K mg base d_2.N d_2.qual (defScope d_2.st) f cdv A outer s H E).xe := fun W tk => passes_of rfl
  exact ⟨_, vss_cons (sasg (i := 2) nd (ve_plain (ve_path (pix hu (ep 0) (ve_str)))))
    (vss_cons (vs_store (i := 0) hu (ebin true od_add (ev 2) (ve_int)) (ep 0) (ve_str) rfl)
    (vss_cons (vs_if (tcmp true (od_ne hu2) (ve_path (pix hu (ep 0) (ve_str))) (ve_lst (va_nil))) (vss_cons (sasg (i := 3) nd (ebin true od_mod (ev 2) (eb1 c1_len M.b_len (by decide +kernel) (ve_path (pix hu (ep 0) (ve_str))))))
    (vss_cons (sasg (i := 4) nd (ve_plain (ve_path (pix hu (pix hu (ep 0) (ve_str)) (ev 3)))))
    (vss_one (vs_if (tcmp true od_gt (ev 4) (ve_int)) (vss_cons (vs_store (i := 0) hu (ebin true od_fdiv (ev 4) (ev 1)) (pix hu (ep 0) (ve_str)) (ev 3) rfl)
    (vss_one (vs_ret (ebin true od_mod (ev 4) (ev 1))))) (vss_nil))))) (vss_nil))
    (vss_one (vs_ret (ebin true od_mod (ecall (d := d_0) (C 0 d_0 rfl) hr (ga1 (ecall (d := d_0) (C 0 d_0 rfl) hr (ga1 (ebin true od_add (ve_path (pix hu (pix hu (ep 0) (ve_str)) (ebin true od_mod (ev 2) (ve_int)))) (ebin true od_mulI (ve_int) (ebin true od_fdiv (ev 2) (ve_int)))) (gn 2 (vg_nil))) (glen_arg (glen_nar (glen_nil)))) (ga1 (ebin true od_add (ev 2) (ve_int)) (vg_nil))) (glen_arg (glen_arg (glen_nil)))) (ev 1))))))⟩
theorem ok_3 (M : MF P w K mg base C_HandError C_BadDeeds C_BadHand C_BadHouse C_BadMachine C_BadNode C_BadRow C_BadWay C_BadPaper C_NoName C_TooGreat C_BadText) : BodyOk P w K mg base DL d_3 := by
  intro k Φ h3 C f cdv A outer s H E hr
  have hr2 := hr.mono (show 2 ≤ k by omega)
  have nd := sc_3.nd
  have hu := hu_of hr
  have hu2 := lt150 hr
  have hp : ∀ W, Takes (cxOf (L2.CX P w) P w K mg base d_3.N d_3.qual (defScope d_3.st) f cdv A outer s H E) W → PassesOwn (model P w) (A.deeper (PyProof.Rows.envOfC d_3.qual (defScope d_3.st) s.heap.objs.size f cdv)) (PyProof.Rows.envOfC d_3.qual (defScope d_3.st) s.heap.objs.size f cdv) (cxOf (L2.CX P w) P w K mg base d_3.N d_3.qual (defScope d_3.st) f cdv A outer s H E).xe := fun W tk => passes_of rfl
  exact ⟨_, vss_cons (sasg (i := 1) nd (ve_disp (vd_cons (ecall (d := d_1) (C 1 d_1 rfl) hr (gn 0 (vg_nil)) (glen_nar (glen_nil))) (vd_cons (ve_lst (va_nil)) (vd_cons (ve_int) (vd_nil)))) (by decide) rfl rfl (by simp) (by decide) (by decide)))
    (vss_cons (vs_store (i := 1) hu (elc [("_law_cell", 2)] nd (vi_seq (ev 0)) (fun _ _ _ _ _ => gnm (i := 2) nd) (fun _ _ _ _ _ => vts_nil) (fun _ _ _ _ _ => ve_if (tcmp true od_ge (ev 2) (ebin true od_pow (ve_int) (ve_int))) (ek 2) (ve_int))) (ep 1) (ve_str) rfl)
    (vss_one (vs_ret (em 1))))⟩
theorem ok_4 (M : MF P w K mg base C_HandError C_BadDeeds C_BadHand C_BadHouse C_BadMachine C_BadNode C_BadRow C_BadWay C_BadPaper C_NoName C_TooGreat C_BadText) : BodyOk P w K mg base DL d_4 := by
  intro k Φ h3 C f cdv A outer s H E hr
  have hr2 := hr.mono (show 2 ≤ k by omega)
  have nd := sc_4.nd
  have hu := hu_of hr
  have hu2 := lt150 hr
  have hp : ∀ W, Takes (cxOf (L2.CX P w) P w K mg base d_4.N d_4.qual (defScope d_4.st) f cdv A outer s H E) W → PassesOwn (model P w) (A.deeper (PyProof.Rows.envOfC d_4.qual (defScope d_4.st) s.heap.objs.size f cdv)) (PyProof.Rows.envOfC d_4.qual (defScope d_4.st) s.heap.objs.size f cdv) (cxOf (L2.CX P w) P w K mg base d_4.N d_4.qual (defScope d_4.st) f cdv A outer s H E).xe := fun W tk => passes_of rfl
  exact ⟨_, vss_cons (sasg (i := 1) nd (ve_lst (va_cons (ve_str) (va_cons (ve_str) (va_cons (ve_str) (va_cons (ve_str) (va_cons (ve_str) (va_cons (ve_str) (va_cons (ve_str) (va_cons (ve_str) (va_nil)))))))))))
    (vss_one (vs_ret (ve_join (ve_str) (elc [("_law_k", 2)] nd (irange1 M.b_range (ecall (d := d_2) (C 2 d_2 rfl) hr (gn 0 (ga1 (ve_int) (vg_nil))) (glen_nar (glen_arg (glen_nil))))) (fun _ _ _ _ _ => gnm (i := 2) nd) (fun _ _ _ _ _ => vts_nil) (fun _ _ _ _ _ => eix true (ev 1) (ecall (d := d_2) (C 2 d_2 rfl) hr (gn 0 (ga1 (ve_int) (vg_nil))) (glen_nar (glen_arg (glen_nil)))))))))⟩
theorem ok_5 (M : MF P w K mg base C_HandError C_BadDeeds C_BadHand C_BadHouse C_BadMachine C_BadNode C_BadRow C_BadWay C_BadPaper C_NoName C_TooGreat C_BadText) : BodyOk P w K mg base DL d_5 := by
  intro k Φ h3 C f cdv A outer s H E hr
  have hr2 := hr.mono (show 2 ≤ k by omega)
  have nd := sc_5.nd
  have hu := hu_of hr
  have hu2 := lt150 hr
  have hp : ∀ W, Takes (cxOf (L2.CX P w) P w K mg base d_5.N d_5.qual (defScope d_5.st) f cdv A outer s H E) W → PassesOwn (model P w) (A.deeper (PyProof.Rows.envOfC d_5.qual (defScope d_5.st) s.heap.objs.size f cdv)) (PyProof.Rows.envOfC d_5.qual (defScope d_5.st) s.heap.objs.size f cdv) (cxOf (L2.CX P w) P w K mg base d_5.N d_5.qual (defScope d_5.st) f cdv A outer s H E).xe := fun W tk => passes_of rfl
  exact ⟨_, vss_one (vs_ret (eix true (ve_lst (va_cons (ve_int) (va_cons (ve_int) (va_cons (ve_int) (va_cons (ve_int) (va_cons (ecall (d := d_2) (C 2 d_2 rfl) hr (gn 0 (ga1 (ve_int) (vg_nil))) (glen_nar (glen_arg (glen_nil)))) (va_nil))))))) (ecall (d := d_2) (C 2 d_2 rfl) hr (gn 0 (ga1 (ve_int) (vg_nil))) (glen_nar (glen_arg (glen_nil))))))⟩
theorem ok_6 (M : MF P w K mg base C_HandError C_BadDeeds C_BadHand C_BadHouse C_BadMachine C_BadNode C_BadRow C_BadWay C_BadPaper C_NoName C_TooGreat C_BadText) : BodyOk P w K mg base DL d_6 := by
  intro k Φ h3 C f cdv A outer s H E hr
  have hr2 := hr.mono (show 2 ≤ k by omega)
  have nd := sc_6.nd
  have hu := hu_of hr
  have hu2 := lt150 hr
  have hp : ∀ W, Takes (cxOf (L2.CX P w) P w K mg base d_6.N d_6.qual (defScope d_6.st) f cdv A outer s H E) W → PassesOwn (model P w) (A.deeper (PyProof.Rows.envOfC d_6.qual (defScope d_6.st) s.heap.objs.size f cdv)) (PyProof.Rows.envOfC d_6.qual (defScope d_6.st) s.heap.objs.size f cdv) (cxOf (L2.CX P w) P w K mg base d_6.N d_6.qual (defScope d_6.st) f cdv A outer s H E).xe := fun W tk => passes_of rfl
  exact ⟨_, vss_cons (sasg (i := 1) nd (ve_lst (va_cons (ve_isi rfl M.b_isinstance (ev 0) (pe_glob (v := .ref C_BadDeeds) rfl M.g_BadDeeds rfl) (.own _) M.tb_BadDeeds M.te_BadDeeds PyProof.Rows.boot_isinstance) (va_cons (ve_isi rfl M.b_isinstance (ev 0) (pe_glob (v := .ref C_BadHand) rfl M.g_BadHand rfl) (.own _) M.tb_BadHand M.te_BadHand PyProof.Rows.boot_isinstance) (va_cons (ve_isi rfl M.b_isinstance (ev 0) (pe_glob (v := .ref C_BadHouse) rfl M.g_BadHouse rfl) (.own _) M.tb_BadHouse M.te_BadHouse PyProof.Rows.boot_isinstance) (va_cons (ve_isi rfl M.b_isinstance (ev 0) (pe_glob (v := .ref C_BadMachine) rfl M.g_BadMachine rfl) (.own _) M.tb_BadMachine M.te_BadMachine PyProof.Rows.boot_isinstance) (va_nil)))))))
    (vss_cons (sasg (i := 1) nd (ebin true od_add (ev 1) (ve_lst (va_cons (ve_isi rfl M.b_isinstance (ev 0) (pe_glob (v := .ref C_BadNode) rfl M.g_BadNode rfl) (.own _) M.tb_BadNode M.te_BadNode PyProof.Rows.boot_isinstance) (va_cons (ve_isi rfl M.b_isinstance (ev 0) (pe_glob (v := .ref C_BadRow) rfl M.g_BadRow rfl) (.own _) M.tb_BadRow M.te_BadRow PyProof.Rows.boot_isinstance) (va_cons (ve_isi rfl M.b_isinstance (ev 0) (pe_glob (v := .ref C_BadWay) rfl M.g_BadWay rfl) (.own _) M.tb_BadWay M.te_BadWay PyProof.Rows.boot_isinstance) (va_cons (ve_isi rfl M.b_isinstance (ev 0) (pe_glob (v := .ref C_BadPaper) rfl M.g_BadPaper rfl) (.own _) M.tb_BadPaper M.te_BadPaper PyProof.Rows.boot_isinstance) (va_nil))))))))
    (vss_one (vs_ret (ebin true od_add (ev 1) (ve_lst (va_cons (ve_isi rfl M.b_isinstance (ev 0) (pe_glob (v := .ref C_NoName) rfl M.g_NoName rfl) (.own _) M.tb_NoName M.te_NoName PyProof.Rows.boot_isinstance) (va_cons (ve_isi rfl M.b_isinstance (ev 0) (pe_glob (v := .ref C_TooGreat) rfl M.g_TooGreat rfl) (.own _) M.tb_TooGreat M.te_TooGreat PyProof.Rows.boot_isinstance) (va_cons (ve_isi rfl M.b_isinstance (ev 0) (pe_glob (v := .ref C_BadText) rfl M.g_BadText rfl) (.own _) M.tb_BadText M.te_BadText PyProof.Rows.boot_isinstance) (va_nil)))))))))⟩
theorem ok_7 (M : MF P w K mg base C_HandError C_BadDeeds C_BadHand C_BadHouse C_BadMachine C_BadNode C_BadRow C_BadWay C_BadPaper C_NoName C_TooGreat C_BadText) : BodyOk P w K mg base DL d_7 := by
  intro k Φ h3 C f cdv A outer s H E hr
  have hr2 := hr.mono (show 2 ≤ k by omega)
  have nd := sc_7.nd
  have hu := hu_of hr
  have hu2 := lt150 hr
  have hp : ∀ W, Takes (cxOf (L2.CX P w) P w K mg base d_7.N d_7.qual (defScope d_7.st) f cdv A outer s H E) W → PassesOwn (model P w) (A.deeper (PyProof.Rows.envOfC d_7.qual (defScope d_7.st) s.heap.objs.size f cdv)) (PyProof.Rows.envOfC d_7.qual (defScope d_7.st) s.heap.objs.size f cdv) (cxOf (L2.CX P w) P w K mg base d_7.N d_7.qual (defScope d_7.st) f cdv A outer s H E).xe := fun W tk => passes_of rfl
  exact ⟨_, vss_cons (sasg (i := 3) nd (ve_lst (va_cons (ve_exc1 PySem.F.excBase_ValueError M.q_BadDeeds M.g_BadDeeds M.k_BadDeeds rfl (ev 0)) (va_cons (ve_exc1 PySem.F.excBase_ValueError M.q_BadHand M.g_BadHand M.k_BadHand rfl (ev 1)) (va_cons (ve_exc1 PySem.F.excBase_ValueError M.q_BadHouse M.g_BadHouse M.k_BadHouse rfl (ev 0)) (va_cons (ve_exc1 PySem.F.excBase_ValueError M.q_BadMachine M.g_BadMachine M.k_BadMachine rfl (ev 1)) (va_cons (ve_exc1 PySem.F.excBase_ValueError M.q_BadNode M.g_BadNode M.k_BadNode rfl (ev 0)) (va_cons (ve_exc1 PySem.F.excBase_ValueError M.q_BadRow M.g_BadRow M.k_BadRow rfl (ev 1)) (va_cons (ve_exc1 PySem.F.excBase_ValueError M.q_BadWay M.g_BadWay M.k_BadWay rfl (ev 0)) (va_nil))))))))))
    (vss_one (vs_ret (ebin true od_add (ev 3) (ve_lst (va_cons (ve_exc1 PySem.F.excBase_ValueError M.q_BadPaper M.g_BadPaper M.k_BadPaper rfl (ev 1)) (va_cons (ve_exc1 PySem.F.excBase_ValueError M.q_NoName M.g_NoName M.k_NoName rfl (ev 0)) (va_cons (ve_exc1 PySem.F.excBase_ValueError M.q_TooGreat M.g_TooGreat M.k_TooGreat rfl (ev 1)) (va_cons (ve_mkx M.mk_BadText hr2 (ek 2)) (va_nil)))))))))⟩
theorem ok_8 (M : MF P w K mg base C_HandError C_BadDeeds C_BadHand C_BadHouse C_BadMachine C_BadNode C_BadRow C_BadWay C_BadPaper C_NoName C_TooGreat C_BadText) : BodyOk P w K mg base DL d_8 := by
  intro k Φ h3 C f cdv A outer s H E hr
  have hr2 := hr.mono (show 2 ≤ k by omega)
  have nd := sc_8.nd
  have hu := hu_of hr
  have hu2 := lt150 hr
  have hp : ∀ W, Takes (cxOf (L2.CX P w) P w K mg base d_8.N d_8.qual (defScope d_8.st) f cdv A outer s H E) W → PassesOwn (model P w) (A.deeper (PyProof.Rows.envOfC d_8.qual (defScope d_8.st) s.heap.objs.size f cdv)) (PyProof.Rows.envOfC d_8.qual (defScope d_8.st) s.heap.objs.size f cdv) (cxOf (L2.CX P w) P w K mg base d_8.N d_8.qual (defScope d_8.st) f cdv A outer s H E).xe := fun W tk => passes_of rfl
  exact ⟨_, vss_cons (sasg (i := 1) nd (ecall (d := d_3) (C 3 d_3 rfl) hr (gn 0 (vg_nil)) (glen_nar (glen_nil))))
    (vss_cons (sfor (irange1 M.b_range (ve_int)) (gnm (i := 2) nd) (vss_cons (vs_par3 (i := 5) (j := 6) (k := 7) rfl nd rfl rfl rfl rfl rfl rfl (va_cons (ecall (d := d_4) (C 4 d_4 rfl) hr (gn 1 (vg_nil)) (glen_nar (glen_nil))) (va_cons (ecall (d := d_4) (C 4 d_4 rfl) hr (gn 1 (vg_nil)) (glen_nar (glen_nil))) (va_cons (ecall (d := d_5) (C 5 d_5 rfl) hr (gn 1 (vg_nil)) (glen_nar (glen_nil))) (va_nil)))) (by rfl))
    (vss_cons (sasg (i := 3) nd (ecall (d := d_7) (C 7 d_7 rfl) hr (gn 5 (gn 6 (gn 7 (vg_nil)))) (glen_nar (glen_nar (glen_nar (glen_nil))))))
    (vss_cons (sfor (irange1 M.b_range (ve_int)) (gnm (i := 4) nd) (vss_cons (vs_if (tcmp true (od_ne hu2) (ecall (d := d_6) (C 6 d_6 rfl) hr (ga1 (eix true (ev 3) (ev 4)) (vg_nil)) (glen_arg (glen_nil))) (elc [("_law_spot", 8)] nd (irange1 M.b_range (ve_int)) (fun _ _ _ _ _ => gnm (i := 8) nd) (fun _ _ _ _ _ => vts_nil) (fun _ _ _ _ _ => ecmp true (od_eq hu2) (ev 4) (ev 8)))) (vss_one (vs_ret (ve_bl))) (vss_nil))
    (vss_one (vs_if (VW.vt (vw_or (vt_not (vt_val (ve_isi rfl M.b_isinstance (eix true (ev 3) (ev 4)) (pe_glob (v := .ref C_HandError) rfl M.g_HandError rfl) (.own _) M.tb_HandError M.te_HandError PyProof.Rows.boot_isinstance))) (vw_or1 (vt_not (vt_val (ve_isi rfl M.b_isinstance (eix true (ev 3) (ev 4)) (pe_bltn (v := .ty "ValueError") rfl M.b_ValueError (by decide +kernel) rfl) (.ty _) M.tb_ValueError M.te_ValueError PyProof.Rows.boot_isinstance)))))) (vss_one (vs_ret (ve_bl))) (vss_nil)))) hp)
    (vss_one (vs_if (tcmp true (od_ne hu2) (eb1 c1_reprI M.b_repr (by decide +kernel) (ve_xf M.xf_BadText_line (ve_mkx M.mk_BadText hr2 (ek 7)))) (eb1 c1_reprI M.b_repr (by decide +kernel) (ev 7))) (vss_one (vs_ret (ve_bl))) (vss_nil)))))) hp)
    (vss_one (vs_ret (ecmp true (od_eq hu2) (ve_lst (va_cons (ve_xf M.xf_BadText_line (ve_mkx M.mk_BadText hr2 (ve_int))) (va_cons (ve_xf M.xf_BadText_line (ve_mkx M.mk_BadText hr2 (ve_int))) (va_cons (ve_xf M.xf_BadText_line (ve_mkx M.mk_BadText hr2 (ve_int))) (va_nil))))) (ve_lst (va_cons (ve_int) (va_cons (ve_int) (va_cons (ve_int) (va_nil)))))))))⟩
end
abbrev sI_BadText : Stmt := inClass (top 12) 0
theorem scI_BadText : FnScope ["self", "line"] ["self", "line"] (defScope sI_BadText) := ⟨rfl, rfl, rfl, by decide +kernel, rfl, by decide +kernel, by decide +kernel⟩
theorem okI_BadText {P : Program} {w : World} {K : PySem.W.Frag} {mg : Mg} {base : Heap} {C C0 fI : Addr} {fd : FuncData} (T : OexC K C) (T0 : HeC K C0) (gB : mg "HandError" = some (.ref C0)) (hno : PySem.W.findIn K (.ref C) "line" = some none) (F : Fun K "__init__" "BadText.__init__" sI_BadText fI fd) : FnOk P w K mg base (L2.CX P w) 1 fI fd ["self", "line"] (spBT C "line") := by
  refine F.okX scI_BadText (fun vs H Q E h => ?_) (fun cdv A outer s H vs Q E hr h => ⟨_, pss_cons (ps_expr (pe_heinit T0 rfl gB (pa_cons (pv 0) (pa_cons pe_str pa_nil)) (by decide)) rfl) (pss_one (ps_ost (pv 0) (pv 1))), ?_⟩)
  · obtain ⟨a, y, rfl, _⟩ := h
    rfl
  · obtain ⟨a, y, rfl, ea, k⟩ := h
    refine ⟨_, rfl, a, C, _, rfl, by simp, T, ea, _, rfl, _, rfl, a, C, rfl, T, hno, .inl ⟨ea, fun dx hd hne => ?_⟩⟩
    exact k dx hd hne
theorem all_mk {l : PySem.W.OpenLaw} {w : World} {K : PySem.W.Frag} {h : Heap} {mg : Mg} {fa f_0 f_1 f_2 f_3 f_4 f_5 f_6 f_7 f_8 C_HandError C_BadDeeds C_BadHand C_BadHouse C_BadMachine C_BadNode C_BadRow C_BadWay C_BadPaper C_NoName C_TooGreat C_BadText fI_BadText : Addr} {oc_0 kV_0 dc_0 pm_0 cd_0 ct_0 oc_1 kV_1 dc_1 pm_1 cd_1 ct_1 oc_2 kV_2 dc_2 pm_2 cd_2 ct_2 oc_3 kV_3 dc_3 pm_3 cd_3 ct_3 oc_4 kV_4 dc_4 pm_4 cd_4 ct_4 oc_5 kV_5 dc_5 pm_5 cd_5 ct_5 oc_6 kV_6 dc_6 pm_6 cd_6 ct_6 oc_7 kV_7 dc_7 pm_7 cd_7 ct_7 oc_8 kV_8 dc_8 pm_8 cd_8 ct_8 oc_IBadText kV_IBadText dc_IBadText pm_IBadText cd_IBadText ct_IBadText : Value} {od_0 an_0 od_1 an_1 od_2 an_2 od_3 an_3 od_4 an_4 od_5 an_5 od_6 an_6 od_7 an_7 od_8 an_8 od_IBadText an_IBadText : Option Addr} {sl_0 sl_1 sl_2 sl_3 sl_4 sl_5 sl_6 sl_7 sl_8 sl_IBadText : Array (Option Value)} {nm_BadText q_BadText : Str} {N_BadText : Addr} {bs_BadText bm_BadText : List Value} {sn_BadText : List Str} {sub_BadText : List Value} {ab_BadText : Bool} {col_BadText : Option Bool} {dd_BadText : Option Addr} {m0_BadText m1_BadText m2_BadText m3_BadText m5_BadText : Option Value} (X : K.In h) (G : h.Ns mainGlobals mg) (hfa : mg "law" = some (.ref fa))
    (hlaw : ∀ ns : List Int, ns.length ≤ 63 → ∃ fin, runB 9 (b_8 (PhiN DL 12)) [scriptD ns] = .ok (.bl true) fin)
    (aC_HandError : PySem.W.nsIn K mainGlobals "HandError" = some (some (.ref C_HandError)))
    (aC_BadDeeds : PySem.W.nsIn K mainGlobals "BadDeeds" = some (some (.ref C_BadDeeds)))
    (aC_BadHand : PySem.W.nsIn K mainGlobals "BadHand" = some (some (.ref C_BadHand)))
    (aC_BadHouse : PySem.W.nsIn K mainGlobals "BadHouse" = some (some (.ref C_BadHouse)))
    (aC_BadMachine : PySem.W.nsIn K mainGlobals "BadMachine" = some (some (.ref C_BadMachine)))
    (aC_BadNode : PySem.W.nsIn K mainGlobals "BadNode" = some (some (.ref C_BadNode)))
    (aC_BadRow : PySem.W.nsIn K mainGlobals "BadRow" = some (some (.ref C_BadRow)))
    (aC_BadWay : PySem.W.nsIn K mainGlobals "BadWay" = some (some (.ref C_BadWay)))
    (aC_BadPaper : PySem.W.nsIn K mainGlobals "BadPaper" = some (some (.ref C_BadPaper)))
    (aC_NoName : PySem.W.nsIn K mainGlobals "NoName" = some (some (.ref C_NoName)))
    (aC_TooGreat : PySem.W.nsIn K mainGlobals "TooGreat" = some (some (.ref C_TooGreat)))
    (aC_BadText : PySem.W.nsIn K mainGlobals "BadText" = some (some (.ref C_BadText)))
    (a_0 : PySem.W.nsIn K mainGlobals "_law_mixed" = some (some (.ref f_0)))
    (l_0 : K.lookup f_0 = some ⟨oc_0, od_0, .func (PySem.W.fnOf "_law_mixed" "_law_mixed" (defArgs s_0) (defBody s_0) (defScope s_0) .none kV_0 dc_0 pm_0 an_0 cd_0 ct_0), sl_0⟩)
    (c_0 : PySem.W.codeIn K cd_0 "_law_mixed" = true)
    (k_0 : PySem.W.keepIn K (.ref f_0) = true)
    (a_1 : PySem.W.nsIn K mainGlobals "_law_folded" = some (some (.ref f_1)))
    (l_1 : K.lookup f_1 = some ⟨oc_1, od_1, .func (PySem.W.fnOf "_law_folded" "_law_folded" (defArgs s_1) (defBody s_1) (defScope s_1) .none kV_1 dc_1 pm_1 an_1 cd_1 ct_1), sl_1⟩)
    (c_1 : PySem.W.codeIn K cd_1 "_law_folded" = true)
    (k_1 : PySem.W.keepIn K (.ref f_1) = true)
    (a_2 : PySem.W.nsIn K mainGlobals "_law_draw" = some (some (.ref f_2)))
    (l_2 : K.lookup f_2 = some ⟨oc_2, od_2, .func (PySem.W.fnOf "_law_draw" "_law_draw" (defArgs s_2) (defBody s_2) (defScope s_2) .none kV_2 dc_2 pm_2 an_2 cd_2 ct_2), sl_2⟩)
    (c_2 : PySem.W.codeIn K cd_2 "_law_draw" = true)
    (k_2 : PySem.W.keepIn K (.ref f_2) = true)
    (a_3 : PySem.W.nsIn K mainGlobals "_law_begun" = some (some (.ref f_3)))
    (l_3 : K.lookup f_3 = some ⟨oc_3, od_3, .func (PySem.W.fnOf "_law_begun" "_law_begun" (defArgs s_3) (defBody s_3) (defScope s_3) .none kV_3 dc_3 pm_3 an_3 cd_3 ct_3), sl_3⟩)
    (c_3 : PySem.W.codeIn K cd_3 "_law_begun" = true)
    (k_3 : PySem.W.keepIn K (.ref f_3) = true)
    (a_4 : PySem.W.nsIn K mainGlobals "_law_said" = some (some (.ref f_4)))
    (l_4 : K.lookup f_4 = some ⟨oc_4, od_4, .func (PySem.W.fnOf "_law_said" "_law_said" (defArgs s_4) (defBody s_4) (defScope s_4) .none kV_4 dc_4 pm_4 an_4 cd_4 ct_4), sl_4⟩)
    (c_4 : PySem.W.codeIn K cd_4 "_law_said" = true)
    (k_4 : PySem.W.keepIn K (.ref f_4) = true)
    (a_5 : PySem.W.nsIn K mainGlobals "_law_line" = some (some (.ref f_5)))
    (l_5 : K.lookup f_5 = some ⟨oc_5, od_5, .func (PySem.W.fnOf "_law_line" "_law_line" (defArgs s_5) (defBody s_5) (defScope s_5) .none kV_5 dc_5 pm_5 an_5 cd_5 ct_5), sl_5⟩)
    (c_5 : PySem.W.codeIn K cd_5 "_law_line" = true)
    (k_5 : PySem.W.keepIn K (.ref f_5) = true)
    (a_6 : PySem.W.nsIn K mainGlobals "_law_is" = some (some (.ref f_6)))
    (l_6 : K.lookup f_6 = some ⟨oc_6, od_6, .func (PySem.W.fnOf "_law_is" "_law_is" (defArgs s_6) (defBody s_6) (defScope s_6) .none kV_6 dc_6 pm_6 an_6 cd_6 ct_6), sl_6⟩)
    (c_6 : PySem.W.codeIn K cd_6 "_law_is" = true)
    (k_6 : PySem.W.keepIn K (.ref f_6) = true)
    (a_7 : PySem.W.nsIn K mainGlobals "_law_all" = some (some (.ref f_7)))
    (l_7 : K.lookup f_7 = some ⟨oc_7, od_7, .func (PySem.W.fnOf "_law_all" "_law_all" (defArgs s_7) (defBody s_7) (defScope s_7) .none kV_7 dc_7 pm_7 an_7 cd_7 ct_7), sl_7⟩)
    (c_7 : PySem.W.codeIn K cd_7 "_law_all" = true)
    (k_7 : PySem.W.keepIn K (.ref f_7) = true)
    (a_8 : PySem.W.nsIn K mainGlobals "law" = some (some (.ref f_8)))
    (l_8 : K.lookup f_8 = some ⟨oc_8, od_8, .func (PySem.W.fnOf "law" "law" (defArgs s_8) (defBody s_8) (defScope s_8) .none kV_8 dc_8 pm_8 an_8 cd_8 ct_8), sl_8⟩)
    (c_8 : PySem.W.codeIn K cd_8 "law" = true)
    (k_8 : PySem.W.keepIn K (.ref f_8) = true)
    (kC_HandError : PySem.W.keepIn K (.ref C_HandError) = true)
    (qC_HandError : PySem.W.excIn K C_HandError [.type "ValueError", .type "Exception", .type "BaseException", .type "object"] "ValueError.__new__" = true)
    (kC_BadDeeds : PySem.W.keepIn K (.ref C_BadDeeds) = true)
    (qC_BadDeeds : PySem.W.excIn K C_BadDeeds [.type "ValueError", .type "Exception", .type "BaseException", .type "object"] "ValueError.__new__" = true)
    (kC_BadHand : PySem.W.keepIn K (.ref C_BadHand) = true)
    (qC_BadHand : PySem.W.excIn K C_BadHand [.type "ValueError", .type "Exception", .type "BaseException", .type "object"] "ValueError.__new__" = true)
    (kC_BadHouse : PySem.W.keepIn K (.ref C_BadHouse) = true)
    (qC_BadHouse : PySem.W.excIn K C_BadHouse [.type "ValueError", .type "Exception", .type "BaseException", .type "object"] "ValueError.__new__" = true)
    (kC_BadMachine : PySem.W.keepIn K (.ref C_BadMachine) = true)
    (qC_BadMachine : PySem.W.excIn K C_BadMachine [.type "ValueError", .type "Exception", .type "BaseException", .type "object"] "ValueError.__new__" = true)
    (kC_BadNode : PySem.W.keepIn K (.ref C_BadNode) = true)
    (qC_BadNode : PySem.W.excIn K C_BadNode [.type "ValueError", .type "Exception", .type "BaseException", .type "object"] "ValueError.__new__" = true)
    (kC_BadRow : PySem.W.keepIn K (.ref C_BadRow) = true)
    (qC_BadRow : PySem.W.excIn K C_BadRow [.type "ValueError", .type "Exception", .type "BaseException", .type "object"] "ValueError.__new__" = true)
    (kC_BadWay : PySem.W.keepIn K (.ref C_BadWay) = true)
    (qC_BadWay : PySem.W.excIn K C_BadWay [.type "ValueError", .type "Exception", .type "BaseException", .type "object"] "ValueError.__new__" = true)
    (kC_BadPaper : PySem.W.keepIn K (.ref C_BadPaper) = true)
    (qC_BadPaper : PySem.W.excIn K C_BadPaper [.type "ValueError", .type "Exception", .type "BaseException", .type "object"] "ValueError.__new__" = true)
    (kC_NoName : PySem.W.keepIn K (.ref C_NoName) = true)
    (qC_NoName : PySem.W.excIn K C_NoName [.type "ValueError", .type "Exception", .type "BaseException", .type "object"] "ValueError.__new__" = true)
    (kC_TooGreat : PySem.W.keepIn K (.ref C_TooGreat) = true)
    (qC_TooGreat : PySem.W.excIn K C_TooGreat [.type "ValueError", .type "Exception", .type "BaseException", .type "object"] "ValueError.__new__" = true)
    (kC_BadText : PySem.W.keepIn K (.ref C_BadText) = true)
    (z_ValueError : PySem.W.nsIn K mainGlobals "ValueError" = some none)
    (z_enumerate : PySem.W.nsIn K mainGlobals "enumerate" = some none)
    (z_isinstance : PySem.W.nsIn K mainGlobals "isinstance" = some none)
    (z_len : PySem.W.nsIn K mainGlobals "len" = some none)
    (z_range : PySem.W.nsIn K mainGlobals "range" = some none)
    (z_repr : PySem.W.nsIn K mainGlobals "repr" = some none)
    (tbK_BadMachine : tbB (fun t => PySem.W.kitOne K t (.ref C_BadMachine)) tb_BadMachine = true)
    (teK_BadMachine : teB K (fun t => PySem.W.kitOne K t (.ref C_BadMachine)) [("HandError", C_HandError, false), ("BadDeeds", C_BadDeeds, false), ("BadHand", C_BadHand, false), ("BadHouse", C_BadHouse, false), ("BadMachine", C_BadMachine, true), ("BadNode", C_BadNode, false), ("BadRow", C_BadRow, false), ("BadWay", C_BadWay, false), ("BadPaper", C_BadPaper, false), ("NoName", C_NoName, false), ("TooGreat", C_TooGreat, false), ("BadText", C_BadText, false)] = true)
    (tbK_BadHouse : tbB (fun t => PySem.W.kitOne K t (.ref C_BadHouse)) tb_BadHouse = true)
    (teK_BadHouse : teB K (fun t => PySem.W.kitOne K t (.ref C_BadHouse)) [("HandError", C_HandError, false), ("BadDeeds", C_BadDeeds, false), ("BadHand", C_BadHand, false), ("BadHouse", C_BadHouse, true), ("BadMachine", C_BadMachine, false), ("BadNode", C_BadNode, false), ("BadRow", C_BadRow, false), ("BadWay", C_BadWay, false), ("BadPaper", C_BadPaper, false), ("NoName", C_NoName, false), ("TooGreat", C_TooGreat, false), ("BadText", C_BadText, false)] = true)
    (tbK_BadHand : tbB (fun t => PySem.W.kitOne K t (.ref C_BadHand)) tb_BadHand = true)
    (teK_BadHand : teB K (fun t => PySem.W.kitOne K t (.ref C_BadHand)) [("HandError", C_HandError, false), ("BadDeeds", C_BadDeeds, false), ("BadHand", C_BadHand, true), ("BadHouse", C_BadHouse, false), ("BadMachine", C_BadMachine, false), ("BadNode", C_BadNode, false), ("BadRow", C_BadRow, false), ("BadWay", C_BadWay, false), ("BadPaper", C_BadPaper, false), ("NoName", C_NoName, false), ("TooGreat", C_TooGreat, false), ("BadText", C_BadText, false)] = true)
    (tbK_BadDeeds : tbB (fun t => PySem.W.kitOne K t (.ref C_BadDeeds)) tb_BadDeeds = true)
    (teK_BadDeeds : teB K (fun t => PySem.W.kitOne K t (.ref C_BadDeeds)) [("HandError", C_HandError, false), ("BadDeeds", C_BadDeeds, true), ("BadHand", C_BadHand, false), ("BadHouse", C_BadHouse, false), ("BadMachine", C_BadMachine, false), ("BadNode", C_BadNode, false), ("BadRow", C_BadRow, false), ("BadWay", C_BadWay, false), ("BadPaper", C_BadPaper, false), ("NoName", C_NoName, false), ("TooGreat", C_TooGreat, false), ("BadText", C_BadText, false)] = true)
    (tbK_BadPaper : tbB (fun t => PySem.W.kitOne K t (.ref C_BadPaper)) tb_BadPaper = true)
    (teK_BadPaper : teB K (fun t => PySem.W.kitOne K t (.ref C_BadPaper)) [("HandError", C_HandError, false), ("BadDeeds", C_BadDeeds, false), ("BadHand", C_BadHand, false), ("BadHouse", C_BadHouse, false), ("BadMachine", C_BadMachine, false), ("BadNode", C_BadNode, false), ("BadRow", C_BadRow, false), ("BadWay", C_BadWay, false), ("BadPaper", C_BadPaper, true), ("NoName", C_NoName, false), ("TooGreat", C_TooGreat, false), ("BadText", C_BadText, false)] = true)
    (tbK_BadWay : tbB (fun t => PySem.W.kitOne K t (.ref C_BadWay)) tb_BadWay = true)
    (teK_BadWay : teB K (fun t => PySem.W.kitOne K t (.ref C_BadWay)) [("HandError", C_HandError, false), ("BadDeeds", C_BadDeeds, false), ("BadHand", C_BadHand, false), ("BadHouse", C_BadHouse, false), ("BadMachine", C_BadMachine, false), ("BadNode", C_BadNode, false), ("BadRow", C_BadRow, false), ("BadWay", C_BadWay, true), ("BadPaper", C_BadPaper, false), ("NoName", C_NoName, false), ("TooGreat", C_TooGreat, false), ("BadText", C_BadText, false)] = true)
    (tbK_BadRow : tbB (fun t => PySem.W.kitOne K t (.ref C_BadRow)) tb_BadRow = true)
    (teK_BadRow : teB K (fun t => PySem.W.kitOne K t (.ref C_BadRow)) [("HandError", C_HandError, false), ("BadDeeds", C_BadDeeds, false), ("BadHand", C_BadHand, false), ("BadHouse", C_BadHouse, false), ("BadMachine", C_BadMachine, false), ("BadNode", C_BadNode, false), ("BadRow", C_BadRow, true), ("BadWay", C_BadWay, false), ("BadPaper", C_BadPaper, false), ("NoName", C_NoName, false), ("TooGreat", C_TooGreat, false), ("BadText", C_BadText, false)] = true)
    (tbK_BadNode : tbB (fun t => PySem.W.kitOne K t (.ref C_BadNode)) tb_BadNode = true)
    (teK_BadNode : teB K (fun t => PySem.W.kitOne K t (.ref C_BadNode)) [("HandError", C_HandError, false), ("BadDeeds", C_BadDeeds, false), ("BadHand", C_BadHand, false), ("BadHouse", C_BadHouse, false), ("BadMachine", C_BadMachine, false), ("BadNode", C_BadNode, true), ("BadRow", C_BadRow, false), ("BadWay", C_BadWay, false), ("BadPaper", C_BadPaper, false), ("NoName", C_NoName, false), ("TooGreat", C_TooGreat, false), ("BadText", C_BadText, false)] = true)
    (tbK_BadText : tbB (fun t => PySem.W.kitOne K t (.ref C_BadText)) tb_BadText = true)
    (teK_BadText : teB K (fun t => PySem.W.kitOne K t (.ref C_BadText)) [("HandError", C_HandError, false), ("BadDeeds", C_BadDeeds, false), ("BadHand", C_BadHand, false), ("BadHouse", C_BadHouse, false), ("BadMachine", C_BadMachine, false), ("BadNode", C_BadNode, false), ("BadRow", C_BadRow, false), ("BadWay", C_BadWay, false), ("BadPaper", C_BadPaper, false), ("NoName", C_NoName, false), ("TooGreat", C_TooGreat, false), ("BadText", C_BadText, true)] = true)
    (tbK_TooGreat : tbB (fun t => PySem.W.kitOne K t (.ref C_TooGreat)) tb_TooGreat = true)
    (teK_TooGreat : teB K (fun t => PySem.W.kitOne K t (.ref C_TooGreat)) [("HandError", C_HandError, false), ("BadDeeds", C_BadDeeds, false), ("BadHand", C_BadHand, false), ("BadHouse", C_BadHouse, false), ("BadMachine", C_BadMachine, false), ("BadNode", C_BadNode, false), ("BadRow", C_BadRow, false), ("BadWay", C_BadWay, false), ("BadPaper", C_BadPaper, false), ("NoName", C_NoName, false), ("TooGreat", C_TooGreat, true), ("BadText", C_BadText, false)] = true)
    (tbK_NoName : tbB (fun t => PySem.W.kitOne K t (.ref C_NoName)) tb_NoName = true)
    (teK_NoName : teB K (fun t => PySem.W.kitOne K t (.ref C_NoName)) [("HandError", C_HandError, false), ("BadDeeds", C_BadDeeds, false), ("BadHand", C_BadHand, false), ("BadHouse", C_BadHouse, false), ("BadMachine", C_BadMachine, false), ("BadNode", C_BadNode, false), ("BadRow", C_BadRow, false), ("BadWay", C_BadWay, false), ("BadPaper", C_BadPaper, false), ("NoName", C_NoName, true), ("TooGreat", C_TooGreat, false), ("BadText", C_BadText, false)] = true)
    (tbK_HandError : tbB (fun t => PySem.W.kitOne K t (.ref C_HandError)) tb_HandError = true)
    (teK_HandError : teB K (fun t => PySem.W.kitOne K t (.ref C_HandError)) [("HandError", C_HandError, true), ("BadDeeds", C_BadDeeds, true), ("BadHand", C_BadHand, true), ("BadHouse", C_BadHouse, true), ("BadMachine", C_BadMachine, true), ("BadNode", C_BadNode, true), ("BadRow", C_BadRow, true), ("BadWay", C_BadWay, true), ("BadPaper", C_BadPaper, true), ("NoName", C_NoName, true), ("TooGreat", C_TooGreat, true), ("BadText", C_BadText, true)] = true)
    (tbK_ValueError : tbB (fun t => PySem.W.kitOne K t (.type "ValueError")) tb_ValueError = true)
    (teK_ValueError : teB K (fun t => PySem.W.kitOne K t (.type "ValueError")) [("HandError", C_HandError, true), ("BadDeeds", C_BadDeeds, true), ("BadHand", C_BadHand, true), ("BadHouse", C_BadHouse, true), ("BadMachine", C_BadMachine, true), ("BadNode", C_BadNode, true), ("BadRow", C_BadRow, true), ("BadWay", C_BadWay, true), ("BadPaper", C_BadPaper, true), ("NoName", C_NoName, true), ("TooGreat", C_TooGreat, true), ("BadText", C_BadText, true)] = true)
    (xL_BadText : K.lookup C_BadText = some (excClassObj nm_BadText q_BadText C_BadText N_BadText bs_BadText bm_BadText true sn_BadText sub_BadText ab_BadText col_BadText dd_BadText m0_BadText m1_BadText m2_BadText m3_BadText m5_BadText "ValueError.__new__"))
    (bmK_BadText : PySem.HandSPX.refsVE bm_BadText = true)
    (sa_BadText : PySem.W.findIn K (.ref C_BadText) "__setattr__" = some (some (.builtin "object.__setattr__")))
    (eX_BadText : PySem.W.subIn K (.ref C_BadText) (.type "BaseException") = some true)
    (tX_BadText : PySem.W.typeIn K (.ref C_BadText) = some (.type "type"))
    (aI_BadText : PySem.W.findIn K (.ref C_BadText) "__init__" = some (some (.ref fI_BadText)))
    (tI_BadText : PySem.W.typeIn K (.ref fI_BadText) = some (.type "function"))
    (l_IBadText : K.lookup fI_BadText = some ⟨oc_IBadText, od_IBadText, .func (PySem.W.fnOf "__init__" "BadText.__init__" (defArgs sI_BadText) (defBody sI_BadText) (defScope sI_BadText) .none kV_IBadText dc_IBadText pm_IBadText an_IBadText cd_IBadText ct_IBadText), sl_IBadText⟩)
    (c_IBadText : PySem.W.codeIn K cd_IBadText "BadText.__init__" = true)
    (k_IBadText : PySem.W.keepIn K (.ref fI_BadText) = true)
    (sg_BadText : PySem.W.specialIn K (.ref C_HandError) "__getattribute__" = some (some (.builtin "type.__getattribute__")))
    (rd_BadText : PySem.W.readsIn K C_HandError (.type "type") = true)
    (vv_BadText : PySem.W.findCls K (.ref C_HandError) (.type "type") "__init__" = some (.val (.builtin "ValueError.__init__")))
    (no_BadText : PySem.W.findIn K (.ref C_BadText) "line" = some none)
    (xf_BadText_line : xfB K C_BadText = true) :
    ∃ fd : FuncData, (∀ (s : Shared) (u : Value), BindsTo s fd ⟨[u], []⟩ [("_law_script", u)]) ∧ ∀ base : Heap, K.In base → base.Ns mainGlobals mg → FnOk l.prog w K mg base (L2.CX l.prog w) 16 fa fd ["_law_script"] (spLaw K) := by
  have e := hfa.symm.trans (PySem.W.mg_of X G a_8)
  cases e
  have F_0 := fun_mk (st := s_0) l_0 c_0 k_0
  have H_0 : Has K mg d_0 := ⟨sc_0, _, _, F_0, F_0.binds (ps := ["_law_cell", "_law_k"]) (fun _ _ _ _ _ _ us hl => match us, hl with | [_, _], _ => rfl), PySem.W.mg_of X G a_0⟩
  have F_1 := fun_mk (st := s_1) l_1 c_1 k_1
  have H_1 : Has K mg d_1 := ⟨sc_1, _, _, F_1, F_1.binds (ps := ["_law_script"]) (fun _ _ _ _ _ _ us hl => match us, hl with | [_], _ => rfl), PySem.W.mg_of X G a_1⟩
  have F_2 := fun_mk (st := s_2) l_2 c_2 k_2
  have H_2 : Has K mg d_2 := ⟨sc_2, _, _, F_2, F_2.binds (ps := ["_law_m", "_law_many"]) (fun _ _ _ _ _ _ us hl => match us, hl with | [_, _], _ => rfl), PySem.W.mg_of X G a_2⟩
  have F_3 := fun_mk (st := s_3) l_3 c_3 k_3
  have H_3 : Has K mg d_3 := ⟨sc_3, _, _, F_3, F_3.binds (ps := ["_law_script"]) (fun _ _ _ _ _ _ us hl => match us, hl with | [_], _ => rfl), PySem.W.mg_of X G a_3⟩
  have F_4 := fun_mk (st := s_4) l_4 c_4 k_4
  have H_4 : Has K mg d_4 := ⟨sc_4, _, _, F_4, F_4.binds (ps := ["_law_m"]) (fun _ _ _ _ _ _ us hl => match us, hl with | [_], _ => rfl), PySem.W.mg_of X G a_4⟩
  have F_5 := fun_mk (st := s_5) l_5 c_5 k_5
  have H_5 : Has K mg d_5 := ⟨sc_5, _, _, F_5, F_5.binds (ps := ["_law_m"]) (fun _ _ _ _ _ _ us hl => match us, hl with | [_], _ => rfl), PySem.W.mg_of X G a_5⟩
  have F_6 := fun_mk (st := s_6) l_6 c_6 k_6
  have H_6 : Has K mg d_6 := ⟨sc_6, _, _, F_6, F_6.binds (ps := ["_law_e"]) (fun _ _ _ _ _ _ us hl => match us, hl with | [_], _ => rfl), PySem.W.mg_of X G a_6⟩
  have F_7 := fun_mk (st := s_7) l_7 c_7 k_7
  have H_7 : Has K mg d_7 := ⟨sc_7, _, _, F_7, F_7.binds (ps := ["_law_one", "_law_two", "_law_line_here"]) (fun _ _ _ _ _ _ us hl => match us, hl with | [_, _, _], _ => rfl), PySem.W.mg_of X G a_7⟩
  have F_8 := fun_mk (st := s_8) l_8 c_8 k_8
  have H_8 : Has K mg d_8 := ⟨sc_8, _, _, F_8, F_8.binds (ps := ["_law_script"]) (fun _ _ _ _ _ _ us hl => match us, hl with | [_], _ => rfl), PySem.W.mg_of X G a_8⟩
  have hh : ∀ (i : Nat) (d : DefI), DL[i]? = some d → Has K mg d := fun i d hd => by
    match i, hd with
    | 0, hd => cases hd; exact H_0
    | 1, hd => cases hd; exact H_1
    | 2, hd => cases hd; exact H_2
    | 3, hd => cases hd; exact H_3
    | 4, hd => cases hd; exact H_4
    | 5, hd => cases hd; exact H_5
    | 6, hd => cases hd; exact H_6
    | 7, hd => cases hd; exact H_7
    | 8, hd => cases hd; exact H_8
    | i + 9, hd => simp [DL] at hd
  have FI_BadText := fun_mk (st := sI_BadText) l_IBadText c_IBadText k_IBadText
  have T_BadText : OexC K C_BadText := ⟨⟨_, _, _, _, _, _, _, _, _, _, _, _, _, _, _, xL_BadText, bmK_BadText⟩, sa_BadText, eX_BadText, tX_BadText, kC_BadText⟩
  refine ⟨PySem.W.fnOf "law" "law" (defArgs s_8) (defBody s_8) (defScope s_8) .none kV_8 dc_8 pm_8 an_8 cd_8 ct_8, fun s v => .of_eq rfl, fun base _ _ => ?_⟩
  have M : MF l.prog w K mg base C_HandError C_BadDeeds C_BadHand C_BadHouse C_BadMachine C_BadNode C_BadRow C_BadWay C_BadPaper C_NoName C_TooGreat C_BadText := {
    b_ValueError := PySem.W.mg_none_of X G z_ValueError,
    b_enumerate := PySem.W.mg_none_of X G z_enumerate,
    b_isinstance := PySem.W.mg_none_of X G z_isinstance,
    b_len := PySem.W.mg_none_of X G z_len,
    b_range := PySem.W.mg_none_of X G z_range,
    b_repr := PySem.W.mg_none_of X G z_repr,
    g_HandError := PySem.W.mg_of X G aC_HandError,
    k_HandError := kC_HandError,
    q_HandError := qC_HandError,
    g_BadDeeds := PySem.W.mg_of X G aC_BadDeeds,
    k_BadDeeds := kC_BadDeeds,
    q_BadDeeds := qC_BadDeeds,
    g_BadHand := PySem.W.mg_of X G aC_BadHand,
    k_BadHand := kC_BadHand,
    q_BadHand := qC_BadHand,
    g_BadHouse := PySem.W.mg_of X G aC_BadHouse,
    k_BadHouse := kC_BadHouse,
    q_BadHouse := qC_BadHouse,
    g_BadMachine := PySem.W.mg_of X G aC_BadMachine,
    k_BadMachine := kC_BadMachine,
    q_BadMachine := qC_BadMachine,
    g_BadNode := PySem.W.mg_of X G aC_BadNode,
    k_BadNode := kC_BadNode,
    q_BadNode := qC_BadNode,
    g_BadRow := PySem.W.mg_of X G aC_BadRow,
    k_BadRow := kC_BadRow,
    q_BadRow := qC_BadRow,
    g_BadWay := PySem.W.mg_of X G aC_BadWay,
    k_BadWay := kC_BadWay,
    q_BadWay := qC_BadWay,
    g_BadPaper := PySem.W.mg_of X G aC_BadPaper,
    k_BadPaper := kC_BadPaper,
    q_BadPaper := qC_BadPaper,
    g_NoName := PySem.W.mg_of X G aC_NoName,
    k_NoName := kC_NoName,
    q_NoName := qC_NoName,
    g_TooGreat := PySem.W.mg_of X G aC_TooGreat,
    k_TooGreat := kC_TooGreat,
    q_TooGreat := qC_TooGreat,
    g_BadText := PySem.W.mg_of X G aC_BadText,
    k_BadText := kC_BadText,
    tb_BadMachine := tb_of tbK_BadMachine,
    te_BadMachine := te_of (ans := fun t => PySem.W.kitOne K t (.ref C_BadMachine)) [("HandError", C_HandError, false), ("BadDeeds", C_BadDeeds, false), ("BadHand", C_BadHand, false), ("BadHouse", C_BadHouse, false), ("BadMachine", C_BadMachine, true), ("BadNode", C_BadNode, false), ("BadRow", C_BadRow, false), ("BadWay", C_BadWay, false), ("BadPaper", C_BadPaper, false), ("NoName", C_NoName, false), ("TooGreat", C_TooGreat, false), ("BadText", C_BadText, false)] (List.forall_mem_cons.mpr ⟨PySem.W.mg_of X G aC_HandError, (List.forall_mem_cons.mpr ⟨PySem.W.mg_of X G aC_BadDeeds, (List.forall_mem_cons.mpr ⟨PySem.W.mg_of X G aC_BadHand, (List.forall_mem_cons.mpr ⟨PySem.W.mg_of X G aC_BadHouse, (List.forall_mem_cons.mpr ⟨PySem.W.mg_of X G aC_BadMachine, (List.forall_mem_cons.mpr ⟨PySem.W.mg_of X G aC_BadNode, (List.forall_mem_cons.mpr ⟨PySem.W.mg_of X G aC_BadRow, (List.forall_mem_cons.mpr ⟨PySem.W.mg_of X G aC_BadWay, (List.forall_mem_cons.mpr ⟨PySem.W.mg_of X G aC_BadPaper, (List.forall_mem_cons.mpr ⟨PySem.W.mg_of X G aC_NoName, (List.forall_mem_cons.mpr ⟨PySem.W.mg_of X G aC_TooGreat, (List.forall_mem_cons.mpr ⟨PySem.W.mg_of X G aC_BadText, fun _ h => absurd h List.not_mem_nil⟩)⟩)⟩)⟩)⟩)⟩)⟩)⟩)⟩)⟩)⟩)⟩) teK_BadMachine,
    tb_BadHouse := tb_of tbK_BadHouse,
    te_BadHouse := te_of (ans := fun t => PySem.W.kitOne K t (.ref C_BadHouse)) [("HandError", C_HandError, false), ("BadDeeds", C_BadDeeds, false), ("BadHand", C_BadHand, false), ("BadHouse", C_BadHouse, true), ("BadMachine", C_BadMachine, false), ("BadNode", C_BadNode, false), ("BadRow", C_BadRow, false), ("BadWay", C_BadWay, false), ("BadPaper", C_BadPaper, false), ("NoName", C_NoName, false), ("TooGreat", C_TooGreat, false), ("BadText", C_BadText, false)] (List.forall_mem_cons.mpr ⟨PySem.W.mg_of X G aC_HandError, (List.forall_mem_cons.mpr ⟨PySem.W.mg_of X G aC_BadDeeds, (List.forall_mem_cons.mpr ⟨PySem.W.mg_of X G aC_BadHand, (List.forall_mem_cons.mpr ⟨PySem.W.mg_of X G aC_BadHouse, (List.forall_mem_cons.mpr ⟨PySem.W.mg_of X G aC_BadMachine, (List.forall_mem_cons.mpr ⟨PySem.W.mg_of X G aC_BadNode, (List.forall_mem_cons.mpr ⟨PySem.W.mg_of X G aC_BadRow, (List.forall_mem_cons.mpr ⟨PySem.W.mg_of X G aC_BadWay, (List.forall_mem_cons.mpr ⟨PySem.W.mg_of X G aC_BadPaper, (List.forall_mem_cons.mpr ⟨PySem.W.mg_of X G aC_NoName, (List.forall_mem_cons.mpr ⟨PySem.W.mg_of X G aC_TooGreat, (List.forall_mem_cons.mpr ⟨PySem.W.mg_of X G aC_BadText, fun _ h => absurd h List.not_mem_nil⟩)⟩)⟩)⟩)⟩)⟩)⟩)⟩)⟩)⟩)⟩)⟩) teK_BadHouse,
    tb_BadHand := tb_of tbK_BadHand,
    te_BadHand := te_of (ans := fun t => PySem.W.kitOne K t (.ref C_BadHand)) [("HandError", C_HandError, false), ("BadDeeds", C_BadDeeds, false), ("BadHand", C_BadHand, true), ("BadHouse", C_BadHouse, false), ("BadMachine", C_BadMachine, false), ("BadNode", C_BadNode, false), ("BadRow", C_BadRow, false), ("BadWay", C_BadWay, false), ("BadPaper", C_BadPaper, false), ("NoName", C_NoName, false), ("TooGreat", C_TooGreat, false), ("BadText", C_BadText, false)] (List.forall_mem_cons.mpr ⟨PySem.W.mg_of X G aC_HandError, (List.forall_mem_cons.mpr ⟨PySem.W.mg_of X G aC_BadDeeds, (List.forall_mem_cons.mpr ⟨PySem.W.mg_of X G aC_BadHand, (List.forall_mem_cons.mpr ⟨PySem.W.mg_of X G aC_BadHouse, (List.forall_mem_cons.mpr ⟨PySem.W.mg_of X G aC_BadMachine, (List.forall_mem_cons.mpr ⟨PySem.W.mg_of X G aC_BadNode, (List.forall_mem_cons.mpr ⟨PySem.W.mg_of X G aC_BadRow, (List.forall_mem_cons.mpr ⟨PySem.W.mg_of X G aC_BadWay, (List.forall_mem_cons.mpr ⟨PySem.W.mg_of X G aC_BadPaper, (List.forall_mem_cons.mpr ⟨PySem.W.mg_of X G aC_NoName, (List.forall_mem_cons.mpr ⟨PySem.W.mg_of X G aC_TooGreat, (List.forall_mem_cons.mpr ⟨PySem.W.mg_of X G aC_BadText, fun _ h => absurd h List.not_mem_nil⟩)⟩)⟩)⟩)⟩)⟩)⟩)⟩)⟩)⟩)⟩)⟩) teK_BadHand,
    tb_BadDeeds := tb_of tbK_BadDeeds,
    te_BadDeeds := te_of (ans := fun t => PySem.W.kitOne K t (.ref C_BadDeeds)) [("HandError", C_HandError, false), ("BadDeeds", C_BadDeeds, true), ("BadHand", C_BadHand, false), ("BadHouse", C_BadHouse, false), ("BadMachine", C_BadMachine, false), ("BadNode", C_BadNode, false), ("BadRow", C_BadRow, false), ("BadWay", C_BadWay, false), ("BadPaper", C_BadPaper, false), ("NoName", C_NoName, false), ("TooGreat", C_TooGreat, false), ("BadText", C_BadText, false)] (List.forall_mem_cons.mpr ⟨PySem.W.mg_of X G aC_HandError, (List.forall_mem_cons.mpr ⟨PySem.W.mg_of X G aC_BadDeeds, (List.forall_mem_cons.mpr ⟨PySem.W.mg_of X G aC_BadHand, (List.forall_mem_cons.mpr ⟨PySem.W.mg_of X G aC_BadHouse, (List.forall_mem_cons.mpr ⟨PySem.W.mg_of X G aC_BadMachine, (List.forall_mem_cons.mpr ⟨PySem.W.mg_of X G aC_BadNode, (List.forall_mem_cons.mpr ⟨PySem.W.mg_of X G aC_BadRow, (List.forall_mem_cons.mpr ⟨PySem.W.mg_of X G aC_BadWay, (List.forall_mem_cons.mpr ⟨PySem.W.mg_of X G aC_BadPaper, (List.forall_mem_cons.mpr ⟨PySem.W.mg_of X G aC_NoName, (List.forall_mem_cons.mpr ⟨PySem.W.mg_of X G aC_TooGreat, (List.forall_mem_cons.mpr ⟨PySem.W.mg_of X G aC_BadText, fun _ h => absurd h List.not_mem_nil⟩)⟩)⟩)⟩)⟩)⟩)⟩)⟩)⟩)⟩)⟩)⟩) teK_BadDeeds,
    tb_BadPaper := tb_of tbK_BadPaper,
    te_BadPaper := te_of (ans := fun t => PySem.W.kitOne K t (.ref C_BadPaper)) [("HandError", C_HandError, false), ("BadDeeds", C_BadDeeds, false), ("BadHand", C_BadHand, false), ("BadHouse", C_BadHouse, false), ("BadMachine", C_BadMachine, false), ("BadNode", C_BadNode, false), ("BadRow", C_BadRow, false), ("BadWay", C_BadWay, false), ("BadPaper", C_BadPaper, true), ("NoName", C_NoName, false), ("TooGreat", C_TooGreat, false), ("BadText", C_BadText, false)] (List.forall_mem_cons.mpr ⟨PySem.W.mg_of X G aC_HandError, (List.forall_mem_cons.mpr ⟨PySem.W.mg_of X G aC_BadDeeds, (List.forall_mem_cons.mpr ⟨PySem.W.mg_of X G aC_BadHand, (List.forall_mem_cons.mpr ⟨PySem.W.mg_of X G aC_BadHouse, (List.forall_mem_cons.mpr ⟨PySem.W.mg_of X G aC_BadMachine, (List.forall_mem_cons.mpr ⟨PySem.W.mg_of X G aC_BadNode, (List.forall_mem_cons.mpr ⟨PySem.W.mg_of X G aC_BadRow, (List.forall_mem_cons.mpr ⟨PySem.W.mg_of X G aC_BadWay, (List.forall_mem_cons.mpr ⟨PySem.W.mg_of X G aC_BadPaper, (List.forall_mem_cons.mpr ⟨PySem.W.mg_of X G aC_NoName, (List.forall_mem_cons.mpr ⟨PySem.W.mg_of X G aC_TooGreat, (List.forall_mem_cons.mpr ⟨PySem.W.mg_of X G aC_BadText, fun _ h => absurd h List.not_mem_nil⟩)⟩)⟩)⟩)⟩)⟩)⟩)⟩)⟩)⟩)⟩)⟩) teK_BadPaper,
    tb_BadWay := tb_of tbK_BadWay,
    te_BadWay := te_of (ans := fun t => PySem.W.kitOne K t (.ref C_BadWay)) [("HandError", C_HandError, false), ("BadDeeds", C_BadDeeds, false), ("BadHand", C_BadHand, false), ("BadHouse", C_BadHouse, false), ("BadMachine", C_BadMachine, false), ("BadNode", C_BadNode, false), ("BadRow", C_BadRow, false), ("BadWay", C_BadWay, true), ("BadPaper", C_BadPaper, false), ("NoName", C_NoName, false), ("TooGreat", C_TooGreat, false), ("BadText", C_BadText, false)] (List.forall_mem_cons.mpr ⟨PySem.W.mg_of X G aC_HandError, (List.forall_mem_cons.mpr ⟨PySem.W.mg_of X G aC_BadDeeds, (List.forall_mem_cons.mpr ⟨PySem.W.mg_of X G aC_BadHand, (List.forall_mem_cons.mpr ⟨PySem.W.mg_of X G aC_BadHouse, (List.forall_mem_cons.mpr ⟨PySem.W.mg_of X G aC_BadMachine, (List.forall_mem_cons.mpr ⟨PySem.W.mg_of X G aC_BadNode, (List.forall_mem_cons.mpr ⟨PySem.W.mg_of X G aC_BadRow, (List.forall_mem_cons.mpr ⟨PySem.W.mg_of X G aC_BadWay, (List.forall_mem_cons.mpr ⟨PySem.W.mg_of X G aC_BadPaper, (List.forall_mem_cons.mpr ⟨PySem.W.mg_of X G aC_NoName, (List.forall_mem_cons.mpr ⟨PySem.W.mg_of X G aC_TooGreat, (List.forall_mem_cons.mpr ⟨PySem.W.mg_of X G aC_BadText, fun _ h => absurd h List.not_mem_nil⟩)⟩)⟩)⟩)⟩)⟩)⟩)⟩)⟩)⟩)⟩)⟩) teK_BadWay,
    tb_BadRow := tb_of tbK_BadRow,
    te_BadRow := te_of (ans := fun t => PySem.W.kitOne K t (.ref C_BadRow)) [("HandError", C_HandError, false), ("BadDeeds", C_BadDeeds, false), ("BadHand", C_BadHand, false), ("BadHouse", C_BadHouse, false), ("BadMachine", C_BadMachine, false), ("BadNode", C_BadNode, false), ("BadRow", C_BadRow, true), ("BadWay", C_BadWay, false), ("BadPaper", C_BadPaper, false), ("NoName", C_NoName, false), ("TooGreat", C_TooGreat, false), ("BadText", C_BadText, false)] (List.forall_mem_cons.mpr ⟨PySem.W.mg_of X G aC_HandError, (List.forall_mem_cons.mpr ⟨PySem.W.mg_of X G aC_BadDeeds, (List.forall_mem_cons.mpr ⟨PySem.W.mg_of X G aC_BadHand, (List.forall_mem_cons.mpr ⟨PySem.W.mg_of X G aC_BadHouse, (List.forall_mem_cons.mpr ⟨PySem.W.mg_of X G aC_BadMachine, (List.forall_mem_cons.mpr ⟨PySem.W.mg_of X G aC_BadNode, (List.forall_mem_cons.mpr ⟨PySem.W.mg_of X G aC_BadRow, (List.forall_mem_cons.mpr ⟨PySem.W.mg_of X G aC_BadWay, (List.forall_mem_cons.mpr ⟨PySem.W.mg_of X G aC_BadPaper, (List.forall_mem_cons.mpr ⟨PySem.W.mg_of X G aC_NoName, (List.forall_mem_cons.mpr ⟨PySem.W.mg_of X G aC_TooGreat, (List.forall_mem_cons.mpr ⟨PySem.W.mg_of X G aC_BadText, fun _ h => absurd h List.not_mem_nil⟩)⟩)⟩)⟩)⟩)⟩)⟩)⟩)⟩)⟩)⟩)⟩) teK_BadRow,
    tb_BadNode := tb_of tbK_BadNode,
    te_BadNode := te_of (ans := fun t => PySem.W.kitOne K t (.ref C_BadNode)) [("HandError", C_HandError, false), ("BadDeeds", C_BadDeeds, false), ("BadHand", C_BadHand, false), ("BadHouse", C_BadHouse, false), ("BadMachine", C_BadMachine, false), ("BadNode", C_BadNode, true), ("BadRow", C_BadRow, false), ("BadWay", C_BadWay, false), ("BadPaper", C_BadPaper, false), ("NoName", C_NoName, false), ("TooGreat", C_TooGreat, false), ("BadText", C_BadText, false)] (List.forall_mem_cons.mpr ⟨PySem.W.mg_of X G aC_HandError, (List.forall_mem_cons.mpr ⟨PySem.W.mg_of X G aC_BadDeeds, (List.forall_mem_cons.mpr ⟨PySem.W.mg_of X G aC_BadHand, (List.forall_mem_cons.mpr ⟨PySem.W.mg_of X G aC_BadHouse, (List.forall_mem_cons.mpr ⟨PySem.W.mg_of X G aC_BadMachine, (List.forall_mem_cons.mpr ⟨PySem.W.mg_of X G aC_BadNode, (List.forall_mem_cons.mpr ⟨PySem.W.mg_of X G aC_BadRow, (List.forall_mem_cons.mpr ⟨PySem.W.mg_of X G aC_BadWay, (List.forall_mem_cons.mpr ⟨PySem.W.mg_of X G aC_BadPaper, (List.forall_mem_cons.mpr ⟨PySem.W.mg_of X G aC_NoName, (List.forall_mem_cons.mpr ⟨PySem.W.mg_of X G aC_TooGreat, (List.forall_mem_cons.mpr ⟨PySem.W.mg_of X G aC_BadText, fun _ h => absurd h List.not_mem_nil⟩)⟩)⟩)⟩)⟩)⟩)⟩)⟩)⟩)⟩)⟩)⟩) teK_BadNode,
    tb_BadText := tb_of tbK_BadText,
    te_BadText := te_of (ans := fun t => PySem.W.kitOne K t (.ref C_BadText)) [("HandError", C_HandError, false), ("BadDeeds", C_BadDeeds, false), ("BadHand", C_BadHand, false), ("BadHouse", C_BadHouse, false), ("BadMachine", C_BadMachine, false), ("BadNode", C_BadNode, false), ("BadRow", C_BadRow, false), ("BadWay", C_BadWay, false), ("BadPaper", C_BadPaper, false), ("NoName", C_NoName, false), ("TooGreat", C_TooGreat, false), ("BadText", C_BadText, true)] (List.forall_mem_cons.mpr ⟨PySem.W.mg_of X G aC_HandError, (List.forall_mem_cons.mpr ⟨PySem.W.mg_of X G aC_BadDeeds, (List.forall_mem_cons.mpr ⟨PySem.W.mg_of X G aC_BadHand, (List.forall_mem_cons.mpr ⟨PySem.W.mg_of X G aC_BadHouse, (List.forall_mem_cons.mpr ⟨PySem.W.mg_of X G aC_BadMachine, (List.forall_mem_cons.mpr ⟨PySem.W.mg_of X G aC_BadNode, (List.forall_mem_cons.mpr ⟨PySem.W.mg_of X G aC_BadRow, (List.forall_mem_cons.mpr ⟨PySem.W.mg_of X G aC_BadWay, (List.forall_mem_cons.mpr ⟨PySem.W.mg_of X G aC_BadPaper, (List.forall_mem_cons.mpr ⟨PySem.W.mg_of X G aC_NoName, (List.forall_mem_cons.mpr ⟨PySem.W.mg_of X G aC_TooGreat, (List.forall_mem_cons.mpr ⟨PySem.W.mg_of X G aC_BadText, fun _ h => absurd h List.not_mem_nil⟩)⟩)⟩)⟩)⟩)⟩)⟩)⟩)⟩)⟩)⟩)⟩) teK_BadText,
    tb_TooGreat := tb_of tbK_TooGreat,
    te_TooGreat := te_of (ans := fun t => PySem.W.kitOne K t (.ref C_TooGreat)) [("HandError", C_HandError, false), ("BadDeeds", C_BadDeeds, false), ("BadHand", C_BadHand, false), ("BadHouse", C_BadHouse, false), ("BadMachine", C_BadMachine, false), ("BadNode", C_BadNode, false), ("BadRow", C_BadRow, false), ("BadWay", C_BadWay, false), ("BadPaper", C_BadPaper, false), ("NoName", C_NoName, false), ("TooGreat", C_TooGreat, true), ("BadText", C_BadText, false)] (List.forall_mem_cons.mpr ⟨PySem.W.mg_of X G aC_HandError, (List.forall_mem_cons.mpr ⟨PySem.W.mg_of X G aC_BadDeeds, (List.forall_mem_cons.mpr ⟨PySem.W.mg_of X G aC_BadHand, (List.forall_mem_cons.mpr ⟨PySem.W.mg_of X G aC_BadHouse, (List.forall_mem_cons.mpr ⟨PySem.W.mg_of X G aC_BadMachine, (List.forall_mem_cons.mpr ⟨PySem.W.mg_of X G aC_BadNode, (List.forall_mem_cons.mpr ⟨PySem.W.mg_of X G aC_BadRow, (List.forall_mem_cons.mpr ⟨PySem.W.mg_of X G aC_BadWay, (List.forall_mem_cons.mpr ⟨PySem.W.mg_of X G aC_BadPaper, (List.forall_mem_cons.mpr ⟨PySem.W.mg_of X G aC_NoName, (List.forall_mem_cons.mpr ⟨PySem.W.mg_of X G aC_TooGreat, (List.forall_mem_cons.mpr ⟨PySem.W.mg_of X G aC_BadText, fun _ h => absurd h List.not_mem_nil⟩)⟩)⟩)⟩)⟩)⟩)⟩)⟩)⟩)⟩)⟩)⟩) teK_TooGreat,
    tb_NoName := tb_of tbK_NoName,
    te_NoName := te_of (ans := fun t => PySem.W.kitOne K t (.ref C_NoName)) [("HandError", C_HandError, false), ("BadDeeds", C_BadDeeds, false), ("BadHand", C_BadHand, false), ("BadHouse", C_BadHouse, false), ("BadMachine", C_BadMachine, false), ("BadNode", C_BadNode, false), ("BadRow", C_BadRow, false), ("BadWay", C_BadWay, false), ("BadPaper", C_BadPaper, false), ("NoName", C_NoName, true), ("TooGreat", C_TooGreat, false), ("BadText", C_BadText, false)] (List.forall_mem_cons.mpr ⟨PySem.W.mg_of X G aC_HandError, (List.forall_mem_cons.mpr ⟨PySem.W.mg_of X G aC_BadDeeds, (List.forall_mem_cons.mpr ⟨PySem.W.mg_of X G aC_BadHand, (List.forall_mem_cons.mpr ⟨PySem.W.mg_of X G aC_BadHouse, (List.forall_mem_cons.mpr ⟨PySem.W.mg_of X G aC_BadMachine, (List.forall_mem_cons.mpr ⟨PySem.W.mg_of X G aC_BadNode, (List.forall_mem_cons.mpr ⟨PySem.W.mg_of X G aC_BadRow, (List.forall_mem_cons.mpr ⟨PySem.W.mg_of X G aC_BadWay, (List.forall_mem_cons.mpr ⟨PySem.W.mg_of X G aC_BadPaper, (List.forall_mem_cons.mpr ⟨PySem.W.mg_of X G aC_NoName, (List.forall_mem_cons.mpr ⟨PySem.W.mg_of X G aC_TooGreat, (List.forall_mem_cons.mpr ⟨PySem.W.mg_of X G aC_BadText, fun _ h => absurd h List.not_mem_nil⟩)⟩)⟩)⟩)⟩)⟩)⟩)⟩)⟩)⟩)⟩)⟩) teK_NoName,
    tb_HandError := tb_of tbK_HandError,
    te_HandError := te_of (ans := fun t => PySem.W.kitOne K t (.ref C_HandError)) [("HandError", C_HandError, true), ("BadDeeds", C_BadDeeds, true), ("BadHand", C_BadHand, true), ("BadHouse", C_BadHouse, true), ("BadMachine", C_BadMachine, true), ("BadNode", C_BadNode, true), ("BadRow", C_BadRow, true), ("BadWay", C_BadWay, true), ("BadPaper", C_BadPaper, true), ("NoName", C_NoName, true), ("TooGreat", C_TooGreat, true), ("BadText", C_BadText, true)] (List.forall_mem_cons.mpr ⟨PySem.W.mg_of X G aC_HandError, (List.forall_mem_cons.mpr ⟨PySem.W.mg_of X G aC_BadDeeds, (List.forall_mem_cons.mpr ⟨PySem.W.mg_of X G aC_BadHand, (List.forall_mem_cons.mpr ⟨PySem.W.mg_of X G aC_BadHouse, (List.forall_mem_cons.mpr ⟨PySem.W.mg_of X G aC_BadMachine, (List.forall_mem_cons.mpr ⟨PySem.W.mg_of X G aC_BadNode, (List.forall_mem_cons.mpr ⟨PySem.W.mg_of X G aC_BadRow, (List.forall_mem_cons.mpr ⟨PySem.W.mg_of X G aC_BadWay, (List.forall_mem_cons.mpr ⟨PySem.W.mg_of X G aC_BadPaper, (List.forall_mem_cons.mpr ⟨PySem.W.mg_of X G aC_NoName, (List.forall_mem_cons.mpr ⟨PySem.W.mg_of X G aC_TooGreat, (List.forall_mem_cons.mpr ⟨PySem.W.mg_of X G aC_BadText, fun _ h => absurd h List.not_mem_nil⟩)⟩)⟩)⟩)⟩)⟩)⟩)⟩)⟩)⟩)⟩)⟩) teK_HandError,
    tb_ValueError := tb_of tbK_ValueError,
    te_ValueError := te_of (ans := fun t => PySem.W.kitOne K t (.type "ValueError")) [("HandError", C_HandError, true), ("BadDeeds", C_BadDeeds, true), ("BadHand", C_BadHand, true), ("BadHouse", C_BadHouse, true), ("BadMachine", C_BadMachine, true), ("BadNode", C_BadNode, true), ("BadRow", C_BadRow, true), ("BadWay", C_BadWay, true), ("BadPaper", C_BadPaper, true), ("NoName", C_NoName, true), ("TooGreat", C_TooGreat, true), ("BadText", C_BadText, true)] (List.forall_mem_cons.mpr ⟨PySem.W.mg_of X G aC_HandError, (List.forall_mem_cons.mpr ⟨PySem.W.mg_of X G aC_BadDeeds, (List.forall_mem_cons.mpr ⟨PySem.W.mg_of X G aC_BadHand, (List.forall_mem_cons.mpr ⟨PySem.W.mg_of X G aC_BadHouse, (List.forall_mem_cons.mpr ⟨PySem.W.mg_of X G aC_BadMachine, (List.forall_mem_cons.mpr ⟨PySem.W.mg_of X G aC_BadNode, (List.forall_mem_cons.mpr ⟨PySem.W.mg_of X G aC_BadRow, (List.forall_mem_cons.mpr ⟨PySem.W.mg_of X G aC_BadWay, (List.forall_mem_cons.mpr ⟨PySem.W.mg_of X G aC_BadPaper, (List.forall_mem_cons.mpr ⟨PySem.W.mg_of X G aC_NoName, (List.forall_mem_cons.mpr ⟨PySem.W.mg_of X G aC_TooGreat, (List.forall_mem_cons.mpr ⟨PySem.W.mg_of X G aC_BadText, fun _ h => absurd h List.not_mem_nil⟩)⟩)⟩)⟩)⟩)⟩)⟩)⟩)⟩)⟩)⟩)⟩) teK_ValueError,
    mk_BadText := ⟨_, _, _, _, T_BadText, aI_BadText, tI_BadText, okI_BadText T_BadText ⟨sg_BadText, rd_BadText, vv_BadText⟩ (PySem.W.mg_of X G aC_HandError) no_BadText FI_BadText, FI_BadText.binds (ps := ["self", "line"]) (fun _ _ _ _ _ _ us hl => match us, hl with | [_, _], _ => rfl), PySem.W.mg_of X G aC_BadText⟩,
    xf_BadText_line := fun C e => by cases e.symm.trans (PySem.W.mg_of X G aC_BadText); exact ⟨xfB_ok xf_BadText_line, no_BadText⟩ }
  have hb : ∀ (i : Nat) (d : DefI), DL[i]? = some d → BodyOk l.prog w K mg base DL d := fun i d hd => by
    match i, hd with
    | 0, hd => cases hd; exact ok_0 M
    | 1, hd => cases hd; exact ok_1 M
    | 2, hd => cases hd; exact ok_2 M
    | 3, hd => cases hd; exact ok_3 M
    | 4, hd => cases hd; exact ok_4 M
    | 5, hd => cases hd; exact ok_5 M
    | 6, hd => cases hd; exact ok_6 M
    | 7, hd => cases hd; exact ok_7 M
    | 8, hd => cases hd; exact ok_8 M
    | i + 9, hd => simp [DL] at hd
  have C := all_ok (P := l.prog) (w := w) (base := base) hh hb 12
  exact FnOk.law (fnD F_8 sc_8 fun cdv A outer s H E hr => ok_8 M 15 _ (by decide) C _ cdv A outer s H E hr) hlaw
def mixF (c k : Int) : Int := (c * (1 + 2 * k) * 48271 % 2147483647 + 7919 * k * k + 104729 * k) * 69621 % 2147483629 / 7
theorem mixed_ok (n : Nat) (c k : Int) (h1 : 0 ≤ k) (h2 : k < 1152921504606846976) : PhiN DL (n + 1) 0 [.int c, .int k] = .ok (.int (mixF c k)) [.int c, .int k] := by
  have e1 : -18446744073709551616 < 1 + 2 * k := by omega
  have e2 : 1 + 2 * k < 18446744073709551616 := by omega
  have e3 : -18446744073709551616 < k := by omega
  have e4 : k < 18446744073709551616 := by omega
  rw [phi_0]
  simp [b_0, mixF, e1, e2, e3, e4, seqM, asgM, retM, bnd, pur, twoM, oneM, varM, keepM, moveM, plainM, ofO, boolM, iteM, exprM, D.own, env0, runB, finL, Env.put, addD, subD, gtD, geD, ltD, mulI_r, mulI_l, modD_p, fdivD_p]
theorem owns_int (l : List Int) : D.owns (l.map D.int) = false := by
  induction l with
  | nil => rfl
  | cons x l ih => simp [D.owns, D.own, ih]
/-- the draws' state -/
def mD (cells left : List Int) (k : Int) : D := .dct true [(.str "cells", .lst true (cells.map .int)), (.str "left", .lst true (left.map .int)), (.str "at", .int k)]
theorem key1 : (("cells" : Str) = "at") = False := by decide
theorem key2 : (("left" : Str) = "at") = False := by decide
theorem key3 : (("cells" : Str) = "left") = False := by decide
theorem key4 : (("left" : Str) = "cells") = False := by decide
theorem key5 : (("at" : Str) = "cells") = False := by decide
theorem key6 : (("at" : Str) = "left") = False := by decide
theorem draw_ok (n : Nat) (cells left : List Int) (k many : Int) (hc : cells.length = 64) (h1 : 0 ≤ k) (h2 : k < 576460752303423488) (h3 : 0 < many) (h4 : many < 1073741824) :
    ∃ r left', PhiN DL (n + 2) 2 [mD cells left k, .int many] = .ok (.int r) [mD cells left' (k + 1), .int many] ∧ 0 ≤ r ∧ r < many ∧ left'.length = left.length := by
  rw [phi_2]
  have i1 : ixN 64 (k % 64) = some (k % 64).toNat := ixN_pos (by omega) (by omega)
  have i2 : (k % 64).toNat < cells.length := by omega
  obtain ⟨z, hz⟩ : ∃ z, cells[(k % 64).toNat]? = some z := ⟨_, List.getElem?_eq_getElem i2⟩
  have m1 := mixed_ok n (z + 31 * (k / 64)) k h1 (by omega)
  have m2 := mixed_ok n (mixF (z + 31 * (k / 64)) k) (k + 7) (by omega) (by omega)
  have e1 : -18446744073709551616 < k / 64 := by omega
  have e2 : k / 64 < 18446744073709551616 := by omega
  by_cases hl : left = []
  · subst hl
    have ed : eqB (.lst true []) (.lst true []) = some true := by decide
    refine ⟨mixF (mixF (z + 31 * (k / 64)) k) (k + 7) % many, [], ?_, Int.emod_nonneg _ (by omega), Int.emod_lt_of_pos _ h3, rfl⟩
    simp [b_2, mD, key1, key2, key3, key4, key5, key6, neD, ed, hc, i1, hz, m1, m2, h3, e1, e2, owns_int, seqM, asgM, retM, bnd, pur, twoM, oneM, varM, keepM, moveM, plainM, ofO, boolM, iteM, exprM, D.own, env0, runB, finL, Env.put, addD, subD, gtD, geD, ltD, mulI_r, mulI_l, modD_p, fdivD_p, getM, pixM, rootM, atE, updE, D.at, D.at1, D.upd, D.upd1, dAt, dSet, stepOf, keyD, storeM, setD, lenD, D.ownk, D.owns, consM, lstM, callM, argM, narM, takeA, backA, Env.drop]
  · have ll : 0 < left.length := List.length_pos_iff.mpr hl
    have l0 : (0 : Int) < (left.length : Int) := by omega
    have ed : eqB (.lst true (left.map D.int)) (.lst true []) = some false := by simp [eqB, hl]
    have j1 : ixN left.length (k % (left.length : Int)) = some (k % (left.length : Int)).toNat := ixN_pos (Int.emod_nonneg _ (by omega)) (Int.emod_lt_of_pos _ l0)
    have j2 : (k % (left.length : Int)).toNat < left.length := by
      have := Int.emod_lt_of_pos k l0
      have := Int.emod_nonneg k (show (left.length : Int) ≠ 0 by omega)
      omega
    obtain ⟨y, hy⟩ : ∃ y, left[(k % (left.length : Int)).toNat]? = some y := ⟨_, List.getElem?_eq_getElem j2⟩
    by_cases hp : 0 < y
    · refine ⟨y % many, left.set (k % (left.length : Int)).toNat (y / many), ?_, Int.emod_nonneg _ (by omega), Int.emod_lt_of_pos _ h3, by simp⟩
      simp [b_2, mD, key1, key2, key3, key4, key5, key6, neD, ed, hc, j1, hy, hp, h3, h4, l0, hl, ll, owns_int, seqM, asgM, retM, bnd, pur, twoM, oneM, varM, keepM, moveM, plainM, ofO, boolM, iteM, exprM, D.own, env0, runB, finL, Env.put, addD, subD, gtD, geD, ltD, mulI_r, mulI_l, modD_p, fdivD_p, getM, pixM, rootM, atE, updE, D.at, D.at1, D.upd, D.upd1, dAt, dSet, stepOf, keyD, storeM, setD, lenD, D.ownk, D.owns, consM, lstM, callM, argM, narM, takeA, backA, Env.drop]
    · refine ⟨mixF (mixF (z + 31 * (k / 64)) k) (k + 7) % many, left, ?_, Int.emod_nonneg _ (by omega), Int.emod_lt_of_pos _ h3, rfl⟩
      simp [b_2, mD, key1, key2, key3, key4, key5, key6, neD, ed, hc, i1, hz, j1, hy, hp, m1, m2, h3, l0, hl, ll, e1, e2, owns_int, seqM, asgM, retM, bnd, pur, twoM, oneM, varM, keepM, moveM, plainM, ofO, boolM, iteM, exprM, D.own, env0, runB, finL, Env.put, addD, subD, gtD, geD, ltD, mulI_r, mulI_l, modD_p, fdivD_p, getM, pixM, rootM, atE, updE, D.at, D.at1, D.upd, D.upd1, dAt, dSet, stepOf, keyD, storeM, setD, lenD, D.ownk, D.owns, consM, lstM, callM, argM, narM, takeA, backA, Env.drop]
theorem folded_ok (n : Nat) (ns : List Int) : ∃ cells : List Int, cells.length = 64 ∧ PhiN DL (n + 1) 1 [scriptD ns] = .ok (.lst true (cells.map .int)) [scriptD ns] := by
  rw [phi_1]
  -- the first list
  obtain ⟨out, e', h1, c0, h2, h3, h4⟩ := compM_run (vs := [2]) (fi := range1I (pur (.int 64))) (gt := gnM 2) (ft := pur true) (fe := twoM true (pur (.int 17)) (varM 2) addD) (env := ⟨[some (scriptD ns), none, none, none], [false]⟩) (e1 := ⟨[some (scriptD ns), none, none, none], [false]⟩) (ds := rangeD 0 64)
    (fun i acc e => ∃ l : List Int, acc = l.map .int ∧ l.length = i ∧ e = ⟨[some (scriptD ns), none, none, none], [false]⟩) (by simp [range1I, bnd, pur, small62]) (by simp [savedOk]) ⟨[], rfl, rfl, by simp [Env.dropL, Env.drop]⟩
    (fun j d acc e hd hp => by
      obtain ⟨l, rfl, hl, rfl⟩ := hp
      obtain ⟨rfl, hj⟩ := rangeD_get hd
      refine ⟨rfl, _, _, _, .int (17 + (0 + j)), by simp [gnM]; rfl, rfl, by simp [seqM, asgM, retM, bnd, pur, twoM, oneM, varM, keepM, moveM, plainM, ofO, boolM, iteM, exprM, D.own, env0, runB, finL, Env.put, addD, subD, gtD, geD, ltD, mulI_r, mulI_l, modD_p, fdivD_p]; rfl, by simp; omega, l ++ [(17 + (0 + (j : Int)) : Int)], by simp, by simp [hl], by simp [Env.dropL, Env.drop]⟩)
  subst h2 h4
  rw [rangeD_len] at h3
  have s1 : asgM 1 (compM [2] (range1I (pur (.int 64))) (gnM 2) (pur true) (twoM true (pur (.int 17)) (varM 2) addD)) (env0 4 [scriptD ns]) = .ok .nx ⟨[some (scriptD ns), some (.lst true (c0.map .int)), none, none], [false]⟩ := by
    have e0 : env0 4 [scriptD ns] = ⟨[some (scriptD ns), none, none, none], [false]⟩ := by simp [env0, script_own, List.replicate]
    rw [e0]
    simp [asgM, bnd, h1, Env.put, Env.restL, Env.drop]
  have hc0 : c0.length = 64 := h3
  let P : Nat → VI.Env → Prop := fun _ e => ∃ (c : List Int) (a b : Option D), c.length = 64 ∧ e = ⟨[some (scriptD ns), some (.lst true (c.map .int)), a, b], [false]⟩
  obtain ⟨e2, s2, c2, a2, b2, hc2, rfl⟩ := forM_run (gt := gtM 2 (gconsM (gnM 2) (gconsM (gnM 3) (gnilM)))) (fb := storeM 1 (twoM true (twoM true (twoM true (twoM true (varM 1) (twoM true (varM 2) (pur (.int 64)) modD) ixD) (pur (.int 48271)) mulI) (varM 3) addD) (pur (.int 2147483647)) modD) (rootM 1) (twoM true (varM 2) (pur (.int 64)) modD)) P (enumD 0 (ns.map .int)) 0 ⟨[some (scriptD ns), some (.lst true (c0.map .int)), none, none], [false]⟩ ⟨c0, none, none, hc0, rfl⟩
    (fun j d e hd hp => by
      obtain ⟨c, a, b, hc, rfl⟩ := hp
      rw [enumD_get, List.getElem?_map] at hd
      cases hz : ns[j]? with
      | none => rw [hz] at hd; cases hd
      | some z =>
        rw [hz] at hd
        cases hd
        have i1 : ixN 64 (((0 + j : Nat) : Int) % 64) = some (((0 + j : Nat) : Int) % 64).toNat := ixN_pos (by omega) (by omega)
        have i2 : (((0 + j : Nat) : Int) % 64).toNat < c.length := by omega
        obtain ⟨y, hy⟩ : ∃ y, c[(((0 + j : Nat) : Int) % 64).toNat]? = some y := ⟨_, List.getElem?_eq_getElem i2⟩
        have hx : ixD (.lst true (c.map .int)) (.int (((0 + j : Nat) : Int) % 64)) = some (.int y) := by simp only [ixD, atI, List.length_map, hc, i1, Option.bind_some, List.getElem?_map, hy, Option.map_some]; rfl
        refine ⟨rfl, ⟨[some (scriptD ns), some (.lst true (c.map .int)), some (.int ((0 + j : Nat) : Int)), some (.int z)], [false]⟩, ⟨[some (scriptD ns), some (.lst true ((c.set (((0 + j : Nat) : Int) % 64).toNat ((y * 48271 + z) % 2147483647)).map .int)), some (.int ((0 + j : Nat) : Int)), some (.int z)], [false]⟩, ?_, ?_, ?_⟩
        · simp [gtM, gconsM, gnilM, gnM, bnd, pur, Env.put]
        · simp only [Nat.zero_add] at i1 hx
          simp [seqM, asgM, retM, bnd, pur, twoM, oneM, varM, keepM, moveM, plainM, ofO, boolM, iteM, exprM, D.own, env0, runB, finL, Env.put, addD, subD, gtD, geD, ltD, mulI_r, mulI_l, modD_p, fdivD_p, getM, pixM, rootM, atE, updE, D.at, D.at1, D.upd, D.upd1, dAt, dSet, stepOf, keyD, storeM, setD, lenD, D.ownk, D.owns, consM, lstM, hx, hc, i1]
        · exact ⟨_, _, _, by simpa using hc, rfl⟩)
  obtain ⟨e3, s3, c3, a3, b3, hc3, rfl⟩ := forM_run (gt := gnM 2) (fb := storeM 1 (twoM true (twoM true (twoM true (varM 1) (varM 2) ixD) (twoM true (twoM true (varM 1) (twoM true (varM 2) (pur (.int 1)) subD) ixD) (pur (.int 16807)) mulI) addD) (pur (.int 2147483647)) modD) (rootM 1) (varM 2)) P (rangeD 1 64) 0 ⟨[some (scriptD ns), some (.lst true (c2.map .int)), a2, b2], [false]⟩ ⟨c2, a2, b2, hc2, rfl⟩
    (fun j d e hd hp => by
      obtain ⟨c, a, b, hc, rfl⟩ := hp
      obtain ⟨rfl, hj⟩ := rangeD_get hd
      have i1 : ixN 64 (1 + (j : Int)) = some (1 + (j : Int)).toNat := ixN_pos (by omega) (by omega)
      have i2 : ixN 64 (1 + (j : Int) - 1) = some (1 + (j : Int) - 1).toNat := ixN_pos (by omega) (by omega)
      obtain ⟨y, hy⟩ : ∃ y, c[(1 + (j : Int)).toNat]? = some y := ⟨_, List.getElem?_eq_getElem (by omega)⟩
      obtain ⟨y2, hy2⟩ : ∃ y, c[(1 + (j : Int) - 1).toNat]? = some y := ⟨_, List.getElem?_eq_getElem (by omega)⟩
      have hx : ixD (.lst true (c.map .int)) (.int (1 + (j : Int))) = some (.int y) := by simp only [ixD, atI, List.length_map, hc, i1, Option.bind_some, List.getElem?_map, hy, Option.map_some]; rfl
      have hx2 : ixD (.lst true (c.map .int)) (.int (1 + (j : Int) - 1)) = some (.int y2) := by simp only [ixD, atI, List.length_map, hc, i2, Option.bind_some, List.getElem?_map, hy2, Option.map_some]; rfl
      have hs : subD (.int (1 + (j : Int))) (.int 1) = some (.int (1 + (j : Int) - 1)) := rfl
      refine ⟨rfl, ⟨[some (scriptD ns), some (.lst true (c.map .int)), some (.int (1 + (j : Int))), b], [false]⟩, ⟨[some (scriptD ns), some (.lst true ((c.set (1 + (j : Int)).toNat ((y + y2 * 16807) % 2147483647)).map .int)), some (.int (1 + (j : Int))), b], [false]⟩, ?_, ?_, ?_⟩
      · simp [gnM, Env.put]
      · generalize hg : (1 + (j : Int)) = q at *
        generalize hg2 : q - 1 = q2 at *
        simp [seqM, asgM, retM, bnd, pur, twoM, oneM, varM, keepM, moveM, plainM, ofO, boolM, iteM, exprM, D.own, env0, runB, finL, Env.put, addD, gtD, geD, ltD, mulI_r, mulI_l, modD_p, fdivD_p, getM, pixM, rootM, atE, updE, D.at, D.at1, D.upd, D.upd1, dAt, dSet, stepOf, keyD, storeM, setD, lenD, D.ownk, D.owns, consM, lstM, hs, hx, hx2, hc, i1]
      · exact ⟨_, _, _, by simpa using hc, rfl⟩)
  refine ⟨c3, hc3, ?_⟩
  refine runB_rt (e := ⟨[some (scriptD ns), none, a3, b3], [false]⟩) ?_ (finL_script ns _)
  unfold b_1
  rw [seq_nx s1]
  have t2 : forS (enumI (varM 0)) (gtM 2 (gconsM (gnM 2) (gconsM (gnM 3) (gnilM)))) (storeM 1 (twoM true (twoM true (twoM true (twoM true (varM 1) (twoM true (varM 2) (pur (.int 64)) modD) ixD) (pur (.int 48271)) mulI) (varM 3) addD) (pur (.int 2147483647)) modD) (rootM 1) (twoM true (varM 2) (pur (.int 64)) modD)) ⟨[some (scriptD ns), some (.lst true (c0.map .int)), none, none], [false]⟩ = .ok .nx ⟨[some (scriptD ns), some (.lst true (c2.map .int)), a2, b2], [false]⟩ := by
    simp [forS, enumI, varM, bnd, pur, scriptD, owns_int]
    exact s2
  rw [seq_nx t2]
  have t3 : forS (range2I (pur (.int 1)) (pur (.int 64))) (gnM 2) (storeM 1 (twoM true (twoM true (twoM true (varM 1) (varM 2) ixD) (twoM true (twoM true (varM 1) (twoM true (varM 2) (pur (.int 1)) subD) ixD) (pur (.int 16807)) mulI) addD) (pur (.int 2147483647)) modD) (rootM 1) (varM 2)) ⟨[some (scriptD ns), some (.lst true (c2.map .int)), a2, b2], [false]⟩ = .ok .nx ⟨[some (scriptD ns), some (.lst true (c3.map .int)), a3, b3], [false]⟩ := by
    simp [forS, range2I, bnd, pur, small62]
    exact s3
  rw [seq_nx t3]
  simp [retM, bnd, pur, moveM, D.own, Env.drop]
theorem mD_own (cells left : List Int) (k : Int) : (mD cells left k).own = true := by simp [mD, D.own]
theorem begun_ok (n : Nat) (ns : List Int) (hns : ns.length ≤ 63) : ∃ cells left : List Int, cells.length = 64 ∧ left.length = ns.length ∧ PhiN DL (n + 2) 3 [scriptD ns] = .ok (mD cells left 0) [scriptD ns] := by
  obtain ⟨cells, hc, hf⟩ := folded_ok n ns
  rw [phi_3]
  have s1 : asgM 1 (dispM ["cells", "left", "at"] (consM (callM (PhiN DL (n + 1) 1) (narM 0 (pur []))) (consM (lstM (pur [])) (consM (pur (.int 0)) (pur []))))) (env0 3 [scriptD ns]) = .ok .nx ⟨[some (scriptD ns), some (mD cells [] 0), none], [false]⟩ := by
    have e0 : env0 3 [scriptD ns] = ⟨[some (scriptD ns), none, none], [false]⟩ := by simp [env0, script_own, List.replicate]
    rw [e0]
    simp [asgM, dispM, consM, callM, narM, takeA, backA, bnd, pur, script_own, hf, lstM, Env.put, mD]
  have hs : savedOk ⟨[some (scriptD ns), some (mD cells [] 0), none], [false]⟩ [2] = true := rfl
  obtain ⟨out, e', h1, l, h2, h3, h4⟩ := compM_run (vs := [2]) (fi := seqI (varM 0)) (gt := gnM 2) (ft := pur true) (fe := iteM (boolM (twoM true (varM 2) (twoM true (pur (.int 10)) (pur (.int 18)) powD) geD)) (keepM 2) (pur (.int 0))) (env := ⟨[some (scriptD ns), some (mD cells [] 0), none], [false]⟩) (e1 := ⟨[some (scriptD ns), some (mD cells [] 0), none], [false]⟩) (ds := ns.map .int)
    (fun i acc e => ∃ l : List Int, acc = l.map .int ∧ l.length = i ∧ e = ⟨[some (scriptD ns), some (mD cells [] 0), none], [false]⟩) (by simp [seqI, varM, bnd, pur, scriptD, itemsD, owns_int, ofO]) hs ⟨[], rfl, rfl, by simp [Env.dropL, Env.drop]⟩
    (fun j d acc e hd hp => by
      obtain ⟨l, rfl, hl, rfl⟩ := hp
      rw [List.getElem?_map] at hd
      cases hz : ns[j]? with
      | none => rw [hz] at hd; cases hd
      | some z =>
        rw [hz] at hd
        cases hd
        have hj := (List.getElem?_eq_some_iff.mp hz).1
        have hp : powD (.int 10) (.int 18) = some (.int (10 ^ 18)) := rfl
        refine ⟨rfl, ⟨[some (scriptD ns), some (mD cells [] 0), some (.int z)], [false]⟩, ⟨[some (scriptD ns), some (mD cells [] 0), some (.int z)], [false]⟩, ⟨[some (scriptD ns), some (mD cells [] 0), some (.int z)], [false]⟩, .int (if 10 ^ 18 ≤ z then z else 0), by simp [gnM, Env.put], rfl, ?_, by simp; omega, l ++ [(if 10 ^ 18 ≤ z then z else 0)], by simp, by simp [hl], by simp [Env.dropL, Env.drop]⟩
        by_cases hq : 10 ^ 18 ≤ z
        · have hq' : (1000000000000000000 : Int) ≤ z := by omega
          simp [iteM, boolM, twoM, varM, bnd, pur, D.own, ofO, hp, geD, hq', keepM]
        · have hq' : ¬ (1000000000000000000 : Int) ≤ z := by omega
          simp [iteM, boolM, twoM, varM, bnd, pur, D.own, ofO, hp, geD, hq', keepM])
  subst h2 h4
  refine ⟨cells, l, hc, by simpa using h3, ?_⟩
  refine runB_rt (e := ⟨[some (scriptD ns), none, none], [false]⟩) ?_ (finL_script ns _)
  unfold b_3
  rw [seq_nx s1]
  have t2 : storeM 1 (compM [2] (seqI (varM 0)) (gnM 2) (pur true) (iteM (boolM (twoM true (varM 2) (twoM true (pur (.int 10)) (pur (.int 18)) powD) geD)) (keepM 2) (pur (.int 0)))) (rootM 1) (pur (.str "left")) ⟨[some (scriptD ns), some (mD cells [] 0), none], [false]⟩ = .ok .nx ⟨[some (scriptD ns), some (mD cells l 0), none], [false]⟩ := by
    unfold storeM bnd
    rw [h1]
    simp [Env.restL, Env.drop, rootM, pur, atE, D.at, mD, setD, keyD, dAt, dSet, key1, key2, key3, key4, key5, key6, updE, D.upd, Env.put]
  rw [seq_nx t2]
  simp [retM, bnd, pur, moveM, mD_own, Env.drop]
/-- two draws, three -/
theorem said_ok (n : Nat) (cells left : List Int) (k : Int) (hc : cells.length = 64) (h1 : 0 ≤ k) (h2 : k < 4294967296) : ∃ (s : Str) (left' : List Int) (k' : Int), PhiN DL (n + 3) 4 [mD cells left k] = .ok (.str s) [mD cells left' k'] ∧ k ≤ k' ∧ k' ≤ k + 4 ∧ left'.length = left.length := by
  rw [phi_4]
  let wd : List D := [.str "hand", .str "no house", .str "a", .str "", .str "row 3", .str "way:", .str "0", .str "stands?"]
  have e0 : env0 3 [mD cells left k] = ⟨[some (mD cells left k), none, none], [true]⟩ := by simp [env0, mD_own, List.replicate]
  obtain ⟨r, l1, d1, d2, d3, d4⟩ := draw_ok n cells left k 4 hc h1 (by omega) (by omega) (by omega)
  let P : Nat → List D → VI.Env → Prop := fun i acc e => ∃ (ys : List Str) (l : List Int) (q : Int), acc = ys.map .str ∧ ys.length = i ∧ (∀ y ∈ ys, y.length ≤ 8) ∧ k + 1 ≤ q ∧ q ≤ k + 1 + i ∧ l.length = left.length ∧ e = ⟨[some (mD cells l q), some (.lst true wd), none], [true]⟩
  have hfi : range1I (callM (PhiN DL (n + 2) 2) (narM 0 (argM (pur (.int 4)) (pur [])))) ⟨[some (mD cells left k), some (.lst true wd), none], [true]⟩ = .ok (rangeD 0 r) ⟨[some (mD cells l1 (k + 1)), some (.lst true wd), none], [true]⟩ := by
    have hsm : small62 r = true := by simp [small62]; omega
    simp [range1I, callM, narM, argM, takeA, backA, bnd, pur, mD_own, D.own, Env.drop, d1, Env.put, hsm]
  obtain ⟨out, e', g1, ys, l, q, g2, g3, g4, g5, g6, g7, g8⟩ := compM_run (vs := [2]) (gt := gnM 2) (ft := pur true) (fe := twoM true (varM 1) (callM (PhiN DL (n + 2) 2) (narM 0 (argM (pur (.int 8)) (pur [])))) ixD) P hfi (by simp [savedOk]) ⟨[], l1, k + 1, rfl, rfl, by simp, by omega, by omega, d4, by simp [Env.dropL, Env.drop]⟩
    (fun j d acc e hd hp => by
      obtain ⟨ys, l, q, rfl, y1, y2, y3, y4, y5, rfl⟩ := hp
      obtain ⟨rfl, hj⟩ := rangeD_get hd
      obtain ⟨t, l2, c1, c2, c3, c4⟩ := draw_ok n cells l q 8 hc (by omega) (by omega) (by omega) (by omega)
      obtain ⟨w, w1, w2⟩ : ∃ w : Str, ixD (.lst true wd) (.int t) = some (.str w) ∧ w.length ≤ 8 := by
        have : t = 0 ∨ t = 1 ∨ t = 2 ∨ t = 3 ∨ t = 4 ∨ t = 5 ∨ t = 6 ∨ t = 7 := by omega
        rcases this with rfl | rfl | rfl | rfl | rfl | rfl | rfl | rfl <;> exact ⟨_, rfl, by decide⟩
      refine ⟨rfl, ⟨[some (mD cells l q), some (.lst true wd), some (.int (0 + j))], [true]⟩, ⟨[some (mD cells l q), some (.lst true wd), some (.int (0 + j))], [true]⟩, ⟨[some (mD cells l2 (q + 1)), some (.lst true wd), some (.int (0 + j))], [true]⟩, .str w, by simp [gnM, Env.put], rfl, ?_, by simp; omega, ys ++ [w], l2, q + 1, by simp, by simp [y1], ?_, by omega, by omega, by omega, by simp [Env.dropL, Env.drop]⟩
      · simp [twoM, varM, callM, narM, argM, takeA, backA, bnd, pur, mD_own, D.own, Env.drop, c1, Env.put, w1, ofO]
      · intro y hy
        rcases List.mem_append.mp hy with z | z
        · exact y2 y z
        · rw [List.mem_singleton.mp z]; exact w2)
  subst g2 g8
  rw [rangeD_len] at g3 g6
  have hst : strsD (ys.map D.str) = some ys := by
    clear g1 g3 g4
    induction ys with
    | nil => rfl
    | cons y ys ih => simp [strsD, ih]
  have hsum : (ys.map (·.length)).sum ≤ 8 * ys.length := by
    clear g1 g3 hst
    induction ys with
    | nil => simp
    | cons y ys ih =>
      have := g4 y List.mem_cons_self
      have := ih fun z hz => g4 z (List.mem_cons_of_mem _ hz)
      simp only [List.map_cons, List.sum_cons, List.length_cons]
      omega
  have hjn : joinD " " (.lst true (ys.map D.str)) = some (.str (Txt.join " " ys)) := by
    have : (ys.map (·.length)).sum + ys.length * (" " : Str).length ≤ 16777216 := by
      have e : (" " : Str).length = 1 := by decide
      rw [e]
      omega
    simp only [joinD, hst, Option.bind_some, if_pos this]
  refine ⟨Txt.join " " ys, l, q, ?_, by omega, by omega, g7⟩
  refine runB_rt (e := ⟨[some (mD cells l q), some (.lst true wd), none], [true]⟩) ?_ (by simp [finL, mD_own])
  unfold b_4
  have s1 : asgM 1 (lstM (consM (pur (.str "hand")) (consM (pur (.str "no house")) (consM (pur (.str "a")) (consM (pur (.str "")) (consM (pur (.str "row 3")) (consM (pur (.str "way:")) (consM (pur (.str "0")) (consM (pur (.str "stands?")) (pur [])))))))))) (env0 3 [mD cells left k]) = .ok .nx ⟨[some (mD cells left k), some (.lst true wd), none], [true]⟩ := by
    rw [e0]
    simp [asgM, lstM, consM, bnd, pur, Env.put, wd]
  rw [seq_nx s1]
  simp only [retM, joinM, bnd, pur]
  rw [g1]
  simp [hjn, ofO, pur, Env.restL, Env.drop]
theorem line_ok (n : Nat) (cells left : List Int) (k : Int) (hc : cells.length = 64) (h1 : 0 ≤ k) (h2 : k < 4294967296) : ∃ (x : Int) (left' : List Int), PhiN DL (n + 3) 5 [mD cells left k] = .ok (.int x) [mD cells left' (k + 2)] ∧ 0 ≤ x ∧ x < 1000 ∧ left'.length = left.length := by
  rw [phi_5]
  obtain ⟨r, l1, d1, d2, d3, d4⟩ := draw_ok n cells left k 1000 hc h1 (by omega) (by omega) (by omega)
  obtain ⟨t, l2, c1, c2, c3, c4⟩ := draw_ok n cells l1 (k + 1) 5 hc (by omega) (by omega) (by omega) (by omega)
  obtain ⟨x, x1, x2, x3⟩ : ∃ x : Int, ixD (.lst true [.int 0, .int 1, .int 2, .int 40, .int r]) (.int t) = some (.int x) ∧ 0 ≤ x ∧ x < 1000 := by
    have : t = 0 ∨ t = 1 ∨ t = 2 ∨ t = 3 ∨ t = 4 := by omega
    rcases this with rfl | rfl | rfl | rfl | rfl <;> exact ⟨_, rfl, by omega, by omega⟩
  have e2 : k + 1 + 1 = k + 2 := by omega
  rw [e2] at c1
  refine ⟨x, l2, ?_, x2, x3, by omega⟩
  simp [b_5, env0, mD_own, runB, retM, twoM, lstM, consM, callM, narM, argM, takeA, backA, bnd, pur, D.own, Env.drop, d1, c1, Env.put, ofO, x1, finL]
theorem is_ok (n : Nat) (x : D) : ∀ j : Nat, j < 11 → True := fun _ _ => trivial
def excs (x : D) : List D := [.exc "BadDeeds" [], .exc "BadHand" [], .exc "BadHouse" [], .exc "BadMachine" [], .exc "BadNode" [], .exc "BadRow" [], .exc "BadWay" [], .exc "BadPaper" [], .exc "NoName" [], .exc "TooGreat" [], .exc "BadText" [("line", x)]]
theorem is_0 (n : Nat) : PhiN DL (n + 1) 6 [.exc "BadDeeds" []] = .ok (.lst true [.bl true, .bl false, .bl false, .bl false, .bl false, .bl false, .bl false, .bl false, .bl false, .bl false, .bl false]) [.exc "BadDeeds" []] := by
  kernel_rfl
theorem is_10 (n : Nat) (x : Int) : PhiN DL (n + 1) 6 [.exc "BadText" [("line", .int x)]] = .ok (.lst true [.bl false, .bl false, .bl false, .bl false, .bl false, .bl false, .bl false, .bl false, .bl false, .bl false, .bl true]) [.exc "BadText" [("line", .int x)]] := by
  kernel_rfl
theorem all_ok' (n : Nat) (a b : Str) (x : Int) : PhiN DL (n + 1) 7 [.str a, .str b, .int x] = .ok (.lst true (excs (.int x))) [.str a, .str b, .int x] := by
  kernel_rfl
theorem inner_ok (sc m a2 a4 a5 a6 a7 : Option D) (x : Int) : forS (range1I (pur (.int 11))) (gnM 4) (seqM (iteM (boolM (twoM true (callM (PhiN DL 12 6) (argM (twoM true (varM 3) (varM 4) ixD) (pur []))) (compM [8] (range1I (pur (.int 11))) (gnM 8) (pur true) (twoM true (varM 4) (varM 8) eqD)) neD)) (retM (pur (.bl false))) (pur .nx))
      (iteM (orM (notM (boolM (oneM (twoM true (varM 3) (varM 4) ixD) (isiD tb_HandError te_HandError)))) (notM (boolM (oneM (twoM true (varM 3) (varM 4) ixD) (isiD tb_ValueError te_ValueError))))) (retM (pur (.bl false))) (pur .nx))) ⟨[sc, m, a2, some (.lst true (excs (.int x))), a4, a5, a6, a7, none], [false]⟩ = .ok .nx ⟨[sc, m, a2, some (.lst true (excs (.int x))), some (.int 10), a5, a6, a7, none], [false]⟩ := by
  kernel_rfl
theorem last_ok (e : VI.Env) : retM (twoM true (lstM (consM (xfM "BadText" "line" (mkxM "BadText" "line" (pur (.int 0)))) (consM (xfM "BadText" "line" (mkxM "BadText" "line" (pur (.int 7)))) (consM (xfM "BadText" "line" (mkxM "BadText" "line" (pur (.int 41)))) (pur []))))) (lstM (consM (pur (.int 0)) (consM (pur (.int 7)) (consM (pur (.int 41)) (pur []))))) eqD) e = .ok (.rt (.bl true)) e := by
  kernel_rfl
theorem law_true : ∀ ns : List Int, ns.length ≤ 63 → ∃ fin, runB 9 (b_8 (PhiN DL 12)) [scriptD ns] = .ok (.bl true) fin := by
  intro ns hns
  obtain ⟨cells, left0, hc, hl0, hb⟩ := begun_ok 10 ns hns
  have s1 : asgM 1 (callM (PhiN DL 12 3) (narM 0 (pur []))) (env0 9 [scriptD ns]) = .ok .nx ⟨[some (scriptD ns), some (mD cells left0 0), none, none, none, none, none, none, none], [false]⟩ := by
    have e0 : env0 9 [scriptD ns] = ⟨[some (scriptD ns), none, none, none, none, none, none, none, none], [false]⟩ := by simp [env0, script_own, List.replicate]
    rw [e0]
    simp [asgM, callM, narM, takeA, backA, bnd, pur, script_own, hb, Env.put]
  let P : Nat → VI.Env → Prop := fun i e => ∃ (l : List Int) (k : Int) (a2 a3 a4 a5 a6 a7 : Option D), 0 ≤ k ∧ k ≤ 10 * i ∧ e = ⟨[some (scriptD ns), some (mD cells l k), a2, a3, a4, a5, a6, a7, none], [false]⟩
  have hs : ∃ e2 : VI.Env, forS (range1I (pur (.int 3))) (gnM 2) (seqM (parM [5, 6, 7] (consM (callM (PhiN DL 12 4) (narM 1 (pur []))) (consM (callM (PhiN DL 12 4) (narM 1 (pur []))) (consM (callM (PhiN DL 12 5) (narM 1 (pur []))) (pur [])))))
        (seqM (asgM 3 (callM (PhiN DL 12 7) (narM 5 (narM 6 (narM 7 (pur []))))))
        (seqM (forS (range1I (pur (.int 11))) (gnM 4) (seqM (iteM (boolM (twoM true (callM (PhiN DL 12 6) (argM (twoM true (varM 3) (varM 4) ixD) (pur []))) (compM [8] (range1I (pur (.int 11))) (gnM 8) (pur true) (twoM true (varM 4) (varM 8) eqD)) neD)) (retM (pur (.bl false))) (pur .nx))
        (iteM (orM (notM (boolM (oneM (twoM true (varM 3) (varM 4) ixD) (isiD tb_HandError te_HandError)))) (notM (boolM (oneM (twoM true (varM 3) (varM 4) ixD) (isiD tb_ValueError te_ValueError))))) (retM (pur (.bl false))) (pur .nx))))
        (iteM (boolM (twoM true (oneM (xfM "BadText" "line" (mkxM "BadText" "line" (keepM 7))) reprI) (oneM (varM 7) reprI) neD)) (retM (pur (.bl false))) (pur .nx))))) ⟨[some (scriptD ns), some (mD cells left0 0), none, none, none, none, none, none, none], [false]⟩ = .ok .nx e2 := by
    obtain ⟨e2, h1, _⟩ := forM_run (gt := gnM 2) (fb := (seqM (parM [5, 6, 7] (consM (callM (PhiN DL 12 4) (narM 1 (pur []))) (consM (callM (PhiN DL 12 4) (narM 1 (pur []))) (consM (callM (PhiN DL 12 5) (narM 1 (pur []))) (pur [])))))
        (seqM (asgM 3 (callM (PhiN DL 12 7) (narM 5 (narM 6 (narM 7 (pur []))))))
        (seqM (forS (range1I (pur (.int 11))) (gnM 4) (seqM (iteM (boolM (twoM true (callM (PhiN DL 12 6) (argM (twoM true (varM 3) (varM 4) ixD) (pur []))) (compM [8] (range1I (pur (.int 11))) (gnM 8) (pur true) (twoM true (varM 4) (varM 8) eqD)) neD)) (retM (pur (.bl false))) (pur .nx))
        (iteM (orM (notM (boolM (oneM (twoM true (varM 3) (varM 4) ixD) (isiD tb_HandError te_HandError)))) (notM (boolM (oneM (twoM true (varM 3) (varM 4) ixD) (isiD tb_ValueError te_ValueError))))) (retM (pur (.bl false))) (pur .nx))))
        (iteM (boolM (twoM true (oneM (xfM "BadText" "line" (mkxM "BadText" "line" (keepM 7))) reprI) (oneM (varM 7) reprI) neD)) (retM (pur (.bl false))) (pur .nx)))))) P (rangeD 0 3) 0 ⟨[some (scriptD ns), some (mD cells left0 0), none, none, none, none, none, none, none], [false]⟩ ⟨left0, 0, none, none, none, none, none, none, by omega, by omega, rfl⟩ (fun j d e hd hp => by
      obtain ⟨l, k, a2, a3, a4, a5, a6, a7, k1, k2, rfl⟩ := hp
      obtain ⟨rfl, hj⟩ := rangeD_get hd
      obtain ⟨w1, l1, q1, u1, u2, u3, u4⟩ := said_ok 9 cells l k hc k1 (by omega)
      obtain ⟨w2, l2, q2, v1, v2, v3, v4⟩ := said_ok 9 cells l1 q1 hc (by omega) (by omega)
      obtain ⟨x, l3, x1, x2, x3, x4⟩ := line_ok 9 cells l2 q2 hc (by omega) (by omega)
      have t1 : parM [5, 6, 7] (consM (callM (PhiN DL 12 4) (narM 1 (pur []))) (consM (callM (PhiN DL 12 4) (narM 1 (pur []))) (consM (callM (PhiN DL 12 5) (narM 1 (pur []))) (pur [])))) ⟨[some (scriptD ns), some (mD cells l k), some (.int (0 + j)), a3, a4, a5, a6, a7, none], [false]⟩ = .ok .nx ⟨[some (scriptD ns), some (mD cells l3 (q2 + 2)), some (.int (0 + j)), a3, a4, some (.str w1), some (.str w2), some (.int x), none], [false]⟩ := by
        simp [parM, consM, callM, narM, takeA, backA, bnd, pur, mD_own, Env.drop, u1, v1, x1, Env.put, putsE]
      have t2 : asgM 3 (callM (PhiN DL 12 7) (narM 5 (narM 6 (narM 7 (pur []))))) ⟨[some (scriptD ns), some (mD cells l3 (q2 + 2)), some (.int (0 + j)), a3, a4, some (.str w1), some (.str w2), some (.int x), none], [false]⟩ = .ok .nx ⟨[some (scriptD ns), some (mD cells l3 (q2 + 2)), some (.int (0 + j)), some (.lst true (excs (.int x))), a4, some (.str w1), some (.str w2), some (.int x), none], [false]⟩ := by
        simp [asgM, callM, narM, takeA, backA, bnd, pur, D.own, all_ok' 11 w1 w2 x, Env.put]
      have hx : x.natAbs.log2 < 1920 := by
        have : x.natAbs < 1000 := by omega
        have := Nat.log2_le_self x.natAbs
        omega
      have t4 : iteM (boolM (twoM true (oneM (xfM "BadText" "line" (mkxM "BadText" "line" (keepM 7))) reprI) (oneM (varM 7) reprI) neD)) (retM (pur (.bl false))) (pur .nx) ⟨[some (scriptD ns), some (mD cells l3 (q2 + 2)), some (.int (0 + j)), some (.lst true (excs (.int x))), some (.int 10), some (.str w1), some (.str w2), some (.int x), none], [false]⟩ = .ok .nx ⟨[some (scriptD ns), some (mD cells l3 (q2 + 2)), some (.int (0 + j)), some (.lst true (excs (.int x))), some (.int 10), some (.str w1), some (.str w2), some (.int x), none], [false]⟩ := by
        simp [iteM, boolM, twoM, oneM, xfM, mkxM, keepM, varM, bnd, pur, D.own, D.ownf, ofO, xfD, fAt, reprI, hx, neD, eqB]
      refine ⟨rfl, ⟨[some (scriptD ns), some (mD cells l k), some (.int (0 + j)), a3, a4, a5, a6, a7, none], [false]⟩, ⟨[some (scriptD ns), some (mD cells l3 (q2 + 2)), some (.int (0 + j)), some (.lst true (excs (.int x))), some (.int 10), some (.str w1), some (.str w2), some (.int x), none], [false]⟩, by simp [gnM, Env.put], ?_, ⟨l3, q2 + 2, _, _, _, _, _, _, by omega, by omega, rfl⟩⟩
      rw [seq_nx t1, seq_nx t2, seq_nx (inner_ok _ _ _ _ _ _ _ x)]
      exact t4)
    refine ⟨e2, ?_⟩
    show bnd _ _ _ = _
    simp only [range1I, bnd, pur]
    exact h1
  obtain ⟨e2, hs⟩ := hs
  refine ⟨[scriptD ns], runB_rt (e := e2) ?_ (finL_script ns _)⟩
  unfold b_8
  rw [seq_nx s1, seq_nx hs]
  exact last_ok e2
theorem walk {l : PySem.W.OpenLaw} {q : Program} {loose : List Str} {XP : (Str → Option Value) → Heap → Prop} {YP : World → Heap → Prop} {d : DefRec} {K : Params → PySem.W.Frag} (hn : l.most = some 63) (hdf : d.params.defaults = [])
    (hY : ∀ (w : World) (h : Heap), YP w h → (K w.params).In h)
    (F : ∀ (w : World) (mg : Str → Option Value) (fa : Addr) (h : Heap), (K w.params).In h → h.Ns mainGlobals mg → mg d.name = some (.ref fa) →
      ∃ fd : FuncData, (∀ (s : Shared) (u : Value), BindsTo s fd ⟨[u], []⟩ [("_law_script", u)]) ∧ ∀ base : Heap, (K w.params).In base → base.Ns mainGlobals mg → FnOk l.prog w (K w.params) mg base (L2.CX l.prog w) 16 fa fd ["_law_script"] (spLaw (K w.params))) :
    PySem.W.WalkO q loose XP YP l.row.toRowW d [] (fun f vs => PySem.call f vs) :=
  L2.walk_of (n := 63) (k := 16) (x := "_law_script") (CX := fun w => L2.CX l.prog w) (sp := fun w => spLaw (K w.params)) hn (by decide) hdf ⟨rfl, by decide, by decide⟩ hY F (fun _ _ a ns hl _ hS => ⟨a, ns, rfl, hS, hl, fun _ => rfl⟩) fun _ H s e s' => cx_no H s e s'
end LW
open PySem PySem.W PyProof.Rows
set_option maxRecDepth 100000 in
set_option maxHeartbeats 0 in
theorem PySem.Challenge.cw_standhouse_k93_refusals_made_holds : PySem.Challenge.rw_standhouse_k93_refusals_made.Holds := by
  w_on; o_law; k_head; (case hw => w_witness2)
  k_fill
  refine LW.walk (l := PySem.Challenge.rw_standhouse_k93_refusals_made) rfl rfl (fun w h Y => PySem.W.kIn_of Y) ?F
  case F =>
    intro w mg fa h KX G hmg
    refine' LW.all_mk KX G hmg LW.law_true ?aC_HandError ?aC_BadDeeds ?aC_BadHand ?aC_BadHouse ?aC_BadMachine ?aC_BadNode ?aC_BadRow ?aC_BadWay ?aC_BadPaper ?aC_NoName ?aC_TooGreat ?aC_BadText ?a_0 ?l_0 ?c_0 ?k_0 ?a_1 ?l_1 ?c_1 ?k_1 ?a_2 ?l_2 ?c_2 ?k_2 ?a_3 ?l_3 ?c_3 ?k_3 ?a_4 ?l_4 ?c_4 ?k_4 ?a_5 ?l_5 ?c_5 ?k_5 ?a_6 ?l_6 ?c_6 ?k_6 ?a_7 ?l_7 ?c_7 ?k_7 ?a_8 ?l_8 ?c_8 ?k_8 ?kC_HandError ?qC_HandError ?kC_BadDeeds ?qC_BadDeeds ?kC_BadHand ?qC_BadHand ?kC_BadHouse ?qC_BadHouse ?kC_BadMachine ?qC_BadMachine ?kC_BadNode ?qC_BadNode ?kC_BadRow ?qC_BadRow ?kC_BadWay ?qC_BadWay ?kC_BadPaper ?qC_BadPaper ?kC_NoName ?qC_NoName ?kC_TooGreat ?qC_TooGreat ?kC_BadText ?z_ValueError ?z_enumerate ?z_isinstance ?z_len ?z_range ?z_repr ?tbK_BadMachine ?teK_BadMachine ?tbK_BadHouse ?teK_BadHouse ?tbK_BadHand ?teK_BadHand ?tbK_BadDeeds ?teK_BadDeeds ?tbK_BadPaper ?teK_BadPaper ?tbK_BadWay ?teK_BadWay ?tbK_BadRow ?teK_BadRow ?tbK_BadNode ?teK_BadNode ?tbK_BadText ?teK_BadText ?tbK_TooGreat ?teK_TooGreat ?tbK_NoName ?teK_NoName ?tbK_HandError ?teK_HandError ?tbK_ValueError ?teK_ValueError ?xL_BadText ?bmK_BadText ?sa_BadText ?eX_BadText ?tX_BadText ?aI_BadText ?tI_BadText ?l_IBadText ?c_IBadText ?k_IBadText ?sg_BadText ?rd_BadText ?vv_BadText ?no_BadText ?xf_BadText_line
    (case aC_HandError => k_is)
    (case aC_BadDeeds => k_is)
    (case aC_BadHand => k_is)
    (case aC_BadHouse => k_is)
    (case aC_BadMachine => k_is)
    (case aC_BadNode => k_is)
    (case aC_BadRow => k_is)
    (case aC_BadWay => k_is)
    (case aC_BadPaper => k_is)
    (case aC_NoName => k_is)
    (case aC_TooGreat => k_is)
    (case aC_BadText => k_is)
    (case a_0 => k_is)
    (case l_0 => k_is)
    (case c_0 => k_is)
    (case k_0 => k_is)
    (case a_1 => k_is)
    (case l_1 => k_is)
    (case c_1 => k_is)
    (case k_1 => k_is)
    (case a_2 => k_is)
    (case l_2 => k_is)
    (case c_2 => k_is)
    (case k_2 => k_is)
    (case a_3 => k_is)
    (case l_3 => k_is)
    (case c_3 => k_is)
    (case k_3 => k_is)
    (case a_4 => k_is)
    (case l_4 => k_is)
    (case c_4 => k_is)
    (case k_4 => k_is)
    (case a_5 => k_is)
    (case l_5 => k_is)
    (case c_5 => k_is)
    (case k_5 => k_is)
    (case a_6 => k_is)
    (case l_6 => k_is)
    (case c_6 => k_is)
    (case k_6 => k_is)
    (case a_7 => k_is)
    (case l_7 => k_is)
    (case c_7 => k_is)
    (case k_7 => k_is)
    (case a_8 => k_is)
    (case l_8 => k_is)
    (case c_8 => k_is)
    (case k_8 => k_is)
    (case kC_HandError => k_is)
    (case qC_HandError => kernel_rfl)
    (case kC_BadDeeds => k_is)
    (case qC_BadDeeds => kernel_rfl)
    (case kC_BadHand => k_is)
    (case qC_BadHand => kernel_rfl)
    (case kC_BadHouse => k_is)
    (case qC_BadHouse => kernel_rfl)
    (case kC_BadMachine => k_is)
    (case qC_BadMachine => kernel_rfl)
    (case kC_BadNode => k_is)
    (case qC_BadNode => kernel_rfl)
    (case kC_BadRow => k_is)
    (case qC_BadRow => kernel_rfl)
    (case kC_BadWay => k_is)
    (case qC_BadWay => kernel_rfl)
    (case kC_BadPaper => k_is)
    (case qC_BadPaper => kernel_rfl)
    (case kC_NoName => k_is)
    (case qC_NoName => kernel_rfl)
    (case kC_TooGreat => k_is)
    (case qC_TooGreat => kernel_rfl)
    (case kC_BadText => k_is)
    (case z_ValueError => k_is)
    (case z_enumerate => k_is)
    (case z_isinstance => k_is)
    (case z_len => k_is)
    (case z_range => k_is)
    (case z_repr => k_is)
    (case tbK_BadMachine => kernel_rfl)
    (case teK_BadMachine => kernel_rfl)
    (case tbK_BadHouse => kernel_rfl)
    (case teK_BadHouse => kernel_rfl)
    (case tbK_BadHand => kernel_rfl)
    (case teK_BadHand => kernel_rfl)
    (case tbK_BadDeeds => kernel_rfl)
    (case teK_BadDeeds => kernel_rfl)
    (case tbK_BadPaper => kernel_rfl)
    (case teK_BadPaper => kernel_rfl)
    (case tbK_BadWay => kernel_rfl)
    (case teK_BadWay => kernel_rfl)
    (case tbK_BadRow => kernel_rfl)
    (case teK_BadRow => kernel_rfl)
    (case tbK_BadNode => kernel_rfl)
    (case teK_BadNode => kernel_rfl)
    (case tbK_BadText => kernel_rfl)
    (case teK_BadText => kernel_rfl)
    (case tbK_TooGreat => kernel_rfl)
    (case teK_TooGreat => kernel_rfl)
    (case tbK_NoName => kernel_rfl)
    (case teK_NoName => kernel_rfl)
    (case tbK_HandError => kernel_rfl)
    (case teK_HandError => kernel_rfl)
    (case tbK_ValueError => kernel_rfl)
    (case teK_ValueError => kernel_rfl)
    (case xL_BadText => k_is)
    (case bmK_BadText => kernel_rfl)
    (case sa_BadText => k_is)
    (case eX_BadText => k_is)
    (case tX_BadText => k_is)
    (case aI_BadText => k_is)
    (case tI_BadText => k_is)
    (case l_IBadText => k_is)
    (case c_IBadText => k_is)
    (case k_IBadText => k_is)
    (case sg_BadText => k_is)
    (case rd_BadText => k_is)
    (case vv_BadText => k_is)
    (case no_BadText => k_is)
    (case xf_BadText_line => kernel_rfl)
#print axioms PySem.Challenge.cw_standhouse_k93_refusals_made_holds
